import PyProof.Rows.All
import Wide.All
import OpenK.AllK
import Wide.FinOn
import HandS.TupSets
import HandS.Set
import HandS.SetKeys
import KE.KeyNested
import HandS.ForMost
import HandS.ForExc
import HandS.CallSlots
import HandS.TryOnly
import HandS.ExcInit
import HandS.Flow
import HandS.Style
import HandS.Wide
import HandS.Conv
import HandS.Codes
import HandS.TupAny
import HandS.SortOrd
import HandS.Deep
import HandS.IsInst
import HandS.RevRange
import HandS.Rev
import KE.KDictKeyed
import KE.KDictWalk
import KE.GoesDict
import HandS.Zip
import HandS.Iter
import KE.GoesEnum
import KE.KDictZip
import PyProof.ListNew
import HandS.ExcField
import HandS.ExcOwn
import KE.LtData
import KE.KSortTup
import KE.KDictSum
import KE.KDictCopyH
import HandS.SetBool
import PyProof.CollectStr
import KE.KDictList
import PySem.Challenge.RW_nomoregranted_k11_objects
set_option Elab.async false
set_option linter.all false
set_option maxRecDepth 100000
set_option maxHeartbeats 4000000
/-! Sets' tables, for every mask whose round goes everywhere (7, 31, 127, 511). -/
namespace SN
open PySem PySem.Spec PyProof.Rows L2
/-- the round from anywhere goes everywhere -/
structure Full (m : Nat) : Prop where
  odd : m % 2 = 1
  all : ∀ i j, i ≤ m → j ≤ m → ∃ k, k ≤ m ∧ lcgI m i k = j
theorem full_of {m : Nat} (h : MaskOk m) : Full m := ⟨mask_odd h, fun _ _ a b => lcgI_all h a b⟩
def orb : Nat → Nat → List Nat
  | 0, _ => []
  | n + 1, x => x :: orb n ((x * 5 + 1) % 512)
theorem lcg_front (x : Nat) : ∀ k, lcgI 511 ((x * 5 + 1) % 512) k = lcgI 511 x (k + 1)
  | 0 => rfl
  | k + 1 => by
    show (lcgI 511 ((x * 5 + 1) % 512) k * 5 + 1) % 512 = (lcgI 511 x (k + 1) * 5 + 1) % 512
    rw [lcg_front x k]
theorem orb_at : ∀ (n x k : Nat), k < n → (orb n x)[k]? = some (lcgI 511 x k)
  | 0, _, _, h => absurd h (Nat.not_lt_zero _)
  | _ + 1, _, 0, _ => rfl
  | n + 1, x, k + 1, h => by
    show (orb n ((x * 5 + 1) % 512))[k]? = _
    rw [orb_at n _ k (Nat.lt_of_succ_lt_succ h), lcg_front]
theorem orb_len : ∀ (n x : Nat), (orb n x).length = n
  | 0, _ => rfl
  | n + 1, x => by rw [orb, List.length_cons, orb_len n]
theorem orb_all : ((List.range 512).all fun j => (orb 512 0).contains j) = true := by decide +kernel
theorem orb_round : lcgN 511 512 = 0 := by decide +kernel
theorem orb_in {j : Nat} (h : j ≤ 511) : ∃ b, b ≤ 511 ∧ lcgN 511 b = j := by
  have h1 := List.all_eq_true.mp orb_all j (List.mem_range.mpr (by omega))
  have h2 : j ∈ orb 512 0 := by simpa using h1
  obtain ⟨b, h3⟩ := List.getElem?_of_mem h2
  have h4 : b < 512 := by have := (List.getElem?_eq_some_iff.mp h3).1; rwa [orb_len] at this
  rw [orb_at 512 0 b h4] at h3
  have h5 := lcgN_add 511 0 b
  rw [Nat.zero_add] at h5
  exact ⟨b, by omega, h5.symm.trans (Option.some.inj h3)⟩
theorem orb_mod : ∀ k, lcgN 511 (512 + k) = lcgN 511 k
  | 0 => orb_round
  | k + 1 => by
    show (lcgN 511 (512 + k) * 5 + 1) % 512 = (lcgN 511 k * 5 + 1) % 512
    rw [orb_mod k]
theorem full511 : Full 511 := ⟨rfl, fun i j a b => by
  obtain ⟨p, hp, rfl⟩ := orb_in a
  obtain ⟨q, hq, rfl⟩ := orb_in b
  by_cases c : p ≤ q
  · exact ⟨q - p, by omega, by rw [lcgN_add, show p + (q - p) = q by omega]⟩
  · exact ⟨q + 512 - p, by omega, by rw [lcgN_add, show p + (q + 512 - p) = 512 + q by omega, orb_mod]⟩⟩
/-! ### the way meets every slot -/
theorem run_all {m : Nat} (F : Full m) (h : Int) {j : Nat} (hj : j ≤ m) : ∃ n, n ≤ m + 12 ∧ runI m (SetTable.bits h) n = j := by
  obtain ⟨k, a, b⟩ := F.all _ j (runI_le m (SetTable.bits h) 12) hj
  exact ⟨12 + k, by omega, (runI_tail (bits_lt h) k).trans b⟩
theorem way_all {m : Nat} (F : Full m) (h : Int) {j : Nat} (hj : j ≤ m) : ∃ k, k < 10 * SetTable.turns m ∧ way m h k = j := by
  obtain ⟨n, a, b⟩ := run_all F h hj
  obtain ⟨k, c, d⟩ := run_nth m (SetTable.bits h) n
  exact ⟨k, by unfold SetTable.turns; omega, (congrArg SetTable.Probe.j d).trans b⟩
theorem way_in {m : Nat} (h : Int) (k : Nat) : way m h k ≤ m := by
  have a : SetTable.bits h % (m + 1) ≤ m := Nat.le_of_lt_succ (Nat.mod_lt _ (Nat.succ_pos _))
  have b := runEnd_bd a
  have c := nth_in k (runAt m (SetTable.bits h % (m + 1)) (SetTable.bits h)) (m := m) (by
    show SetTable.bits h % (m + 1) + (SetTable.runEnd m (SetTable.bits h % (m + 1)) - SetTable.bits h % (m + 1)) ≤ m
    omega)
  exact Nat.le_trans (Nat.le_add_right _ _) c
/-! ### tables -/
structure TabF (t : SetTable) (hs : List Int) : Prop where
  up : Ris t.place.toList
  nod : t.dummies = #[]
  len : t.place.size = hs.length
  full : Full t.mask
  inn : ∀ x ∈ t.place.toList, x ≤ t.mask
  find : ∀ (i : Nat) (h : Int) (j : Nat), hs[i]? = some h → t.place.toList[i]? = some j → ∃ k, way t.mask h k = j ∧ ∀ c, c < k → way t.mask h c ∈ t.place.toList
section
variable {t : SetTable} {hs : List Int}
/-- the first slot of the way that is empty -/
theorem TabF.gap (T : TabF t hs) (hl : hs.length ≤ t.mask) (h : Int) : ∃ K, K < 10 * SetTable.turns t.mask ∧ way t.mask h K ∉ t.place.toList ∧ ∀ c, c < K → way t.mask h c ∈ t.place.toList := by
  obtain ⟨j, a, b⟩ := st_missing t.place.toList (t.mask + 1) (by have := T.len; rw [Array.length_toList]; omega)
  obtain ⟨k, c, d⟩ := way_all T.full h (Nat.le_of_lt_succ a)
  obtain ⟨K, e, f, g⟩ := st_least (p := fun q => way t.mask h q ∉ t.place.toList) k (by rw [d]; exact b)
  exact ⟨K, Nat.lt_of_le_of_lt e c, f, fun q hq => Classical.not_not.mp (g q hq)⟩
theorem TabF.ahead (T : TabF t hs) {h : Int} {K i j : Nat} (hK : way t.mask h K ∉ t.place.toList) (hi : hs[i]? = some h) (hj : t.place.toList[i]? = some j) : ∃ c, c < K ∧ way t.mask h c = j := by
  obtain ⟨k, a, b⟩ := T.find i h j hi hj
  have inj := List.mem_of_getElem? hj
  refine ⟨k, ?_, a⟩
  rcases Nat.lt_or_ge k K with z | z
  · exact z
  · rcases Nat.eq_or_lt_of_le z with z | z
    · rw [z, a] at hK; exact absurd inj hK
    · exact absurd (b K z) hK
theorem TabF.plain (T : TabF t hs) (p : Bool) : TabF { t with plain := p } hs := ⟨T.up, T.nod, T.len, T.full, T.inn, T.find⟩
/-- one put in at the first gap -/
theorem TabF.add (T : TabF t hs) {h : Int} {K : Nat} (hK : way t.mask h K ∉ t.place.toList) (hb : ∀ c, c < K → way t.mask h c ∈ t.place.toList) :
    SetTable.below t.place (way t.mask h K) ≤ hs.length ∧ (t.put (way t.mask h K)).2 = SetTable.below t.place (way t.mask h K) ∧
    TabF (t.put (way t.mask h K)).1 (hs.take (SetTable.below t.place (way t.mask h K)) ++ h :: hs.drop (SetTable.below t.place (way t.mask h K))) ∧
    (t.put (way t.mask h K)).1.mask = t.mask ∧ (t.put (way t.mask h K)).1.led = t.led ∧ (t.put (way t.mask h K)).1.fill = hs.length + 1 := by
  have low := way_in (m := t.mask) h K
  generalize hj : way t.mask h K = j at hK low ⊢
  have cut := (below_cut T.up j).1
  have sz := T.len
  have q1 : SetTable.below t.place j ≤ hs.length := by omega
  have q2 : SetTable.below t.place j ≤ t.place.toList.length := by rw [Array.length_toList]; omega
  have q3 : t.place.toList.length = hs.length := by rw [Array.length_toList]; exact sz
  have q4 : t.place[SetTable.below t.place j]? ≠ some j := fun e => hK (List.mem_of_getElem? (by rw [Array.getElem?_toList]; exact e))
  have pl := put_place t j
  have more : ∀ x, x ∈ t.place.toList → x ∈ (t.put j).1.place.toList := fun x hx => by rw [pl]; exact mem_ins.mpr (Or.inr hx)
  have size2 : (t.put j).1.place.size = hs.length + 1 := by rw [← Array.length_toList, pl, len_ins _ q2, q3]
  have tab : TabF (t.put j).1 (hs.take (SetTable.below t.place j) ++ h :: hs.drop (SetTable.below t.place j)) :=
    { up := ris_insert T.up q4
      nod := put_dm T.nod j
      len := by rw [size2, len_ins _ q1]
      full := T.full
      inn := fun x hx => by
        rw [pl] at hx
        rcases mem_ins.mp hx with rfl | z
        · exact low
        · exact T.inn x z
      find := fun i g l a b => by
        rw [tins_get hs q1] at a
        rw [pl, tins_get _ q2] at b
        have old : ∀ i', hs[i']? = some g → t.place.toList[i']? = some l → ∃ k, way t.mask g k = l ∧ ∀ c, c < k → way t.mask g c ∈ (t.put j).1.place.toList := fun i' x y => by
          obtain ⟨k, u, v⟩ := T.find i' g l x y
          exact ⟨k, u, fun c hc => more _ (v c hc)⟩
        show ∃ k, way t.mask g k = l ∧ ∀ c, c < k → way t.mask g c ∈ (t.put j).1.place.toList
        by_cases z : i < SetTable.below t.place j
        · rw [if_pos z] at a b
          exact old i a b
        · rw [if_neg z] at a b
          by_cases y : i = SetTable.below t.place j
          · rw [if_pos y] at a b
            cases a
            cases b
            exact ⟨K, hj, fun c hc => more _ (hb c hc)⟩
          · rw [if_neg y] at a b
            exact old (i - 1) a b }
  refine ⟨q1, rfl, tab, rfl, rfl, ?_⟩
  show (t.put j).1.place.size + (t.put j).1.dummies.size = _
  rw [size2, tab.nod]
  rfl
end
/-! ### laying anew -/
theorem free_at {m : Nat} (F : Full m) (ow : Array (Option Nat)) (h : Int) {j : Nat} (hj : j ≤ m) (hf : oAt ow j = none) :
    ∃ K, SetTable.layClean.free m ow (SetTable.turns m) (SetTable.bits h % (m + 1)) (SetTable.bits h) = some (way m h K) ∧ oAt ow (way m h K) = none ∧ ∀ c, c < K → oAt ow (way m h c) ≠ none := by
  obtain ⟨n, a, b⟩ := run_all F h hj
  have c : way m h (off m (SetTable.bits h % (m + 1)) (SetTable.bits h) n) = j := by
    have := congrArg SetTable.Probe.j (nth_off m n (SetTable.bits h % (m + 1)) (SetTable.bits h))
    rw [itL_run] at this
    exact this.trans b
  obtain ⟨K, d, e, f⟩ := st_least (p := fun q => oAt ow (way m h q) = none) _ (show oAt ow (way m h (off m (SetTable.bits h % (m + 1)) (SetTable.bits h) n)) = none by rw [c]; exact hf)
  refine ⟨K, free_spec m ow (SetTable.turns m) n _ _ K (by unfold SetTable.turns; omega) d (fun q hq => ?_) (by rw [show oAt ow (nth m (runAt m (SetTable.bits h % (m + 1)) (SetTable.bits h)) K).j = none from e]; rfl), e, f⟩
  have g := f q hq
  cases z : oAt ow (nth m (runAt m (SetTable.bits h % (m + 1)) (SetTable.bits h)) q).j with
  | none => exact absurd z g
  | some _ => rfl
theorem own_step {m : Nat} (F : Full m) {done : List Int} {ow : Array (Option Nat)} (W : Own m done ow) (hl : done.length ≤ m) (h : Int) :
    ∃ j, SetTable.layClean.free m ow (SetTable.turns m) (SetTable.bits h % (m + 1)) (SetTable.bits h) = some j ∧ Own m (done ++ [h]) (ow.setIfInBounds j (some done.length)) := by
  obtain ⟨ps, p1, p2⟩ := W.ps
  obtain ⟨j0, a, b⟩ := st_missing ps (m + 1) (by omega)
  have free0 : oAt ow j0 = none := Classical.byContradiction fun z => b (p2 j0 (Nat.le_of_lt_succ a) z)
  obtain ⟨K, e1, e2, e3⟩ := free_at F ow h (Nat.le_of_lt_succ a) free0
  have low := way_in (m := m) h K
  generalize hj : way m h K = j at e1 e2 low
  have lt : j < ow.size := by have := W.sz; omega
  have here := oAt_set_self (some done.length) lt
  have keep : ∀ i, oAt ow i ≠ none → oAt (ow.setIfInBounds j (some done.length)) i ≠ none := fun i hi => by
    by_cases c : i = j
    · rw [c, here]; simp
    · rw [oAt_set_ne _ c]; exact hi
  refine ⟨j, e1, ⟨by rw [Array.size_setIfInBounds]; exact W.sz, ?_, ?_, j :: ps, by simp [p1], ?_⟩⟩
  · intro i k hi e
    by_cases c : i = j
    · rw [c, here] at e
      cases e
      exact ⟨h, K, by simp, by rw [hj, c], fun q hq => keep _ (e3 q hq)⟩
    · rw [oAt_set_ne _ c] at e
      obtain ⟨g, L, x, y, z⟩ := W.at_ i k hi e
      exact ⟨g, L, by rw [List.getElem?_append_left (List.getElem?_eq_some_iff.mp x).1]; exact x, y, fun q hq => keep _ (z q hq)⟩
  · intro k hk
    by_cases c : k < done.length
    · obtain ⟨i, x, y⟩ := W.all k c
      exact ⟨i, x, by rw [oAt_set_ne _ (by rintro rfl; rw [e2] at y; cases y)]; exact y⟩
    · have : k = done.length := by simp at hk; omega
      exact ⟨j, low, by rw [this]; exact here⟩
  · intro i hi e
    by_cases c : i = j
    · rw [c]; exact List.mem_cons_self
    · rw [oAt_set_ne _ c] at e
      exact List.mem_cons_of_mem _ (p2 i hi e)
theorem own_fold {m : Nat} (F : Full m) : ∀ (rest done : List Int) (ow : Array (Option Nat)), Own m done ow → done.length + rest.length ≤ m →
    ∃ ow', rest.foldl (stepF m) (some (ow, done.length)) = some (ow', (done ++ rest).length) ∧ Own m (done ++ rest) ow'
  | [], done, ow, W, _ => ⟨ow, by simp, by simpa using W⟩
  | h :: rest, done, ow, W, hl => by
    simp only [List.length_cons] at hl
    obtain ⟨j, e, W1⟩ := own_step F W (by omega) h
    obtain ⟨ow', f, W2⟩ := own_fold F rest (done ++ [h]) _ W1 (by simp; omega)
    refine ⟨ow', ?_, by simpa using W2⟩
    rw [List.foldl_cons, stepF_some e]
    simpa using f
theorem lay_ok {m : Nat} (F : Full m) {hs : Array Int} (hn : hs.size ≤ m) : ∃ ow, SetTable.layClean m hs = some ow ∧ Own m hs.toList ow := by
  obtain ⟨ow, a, b⟩ := own_fold F hs.toList [] _ (Own.init m) (by simpa using hn)
  refine ⟨ow, ?_, by simpa using b⟩
  rw [layClean_eq, show hs.toList.foldl (stepF m) (some (Array.replicate (m + 1) none, 0)) = _ from a]
  rfl
theorem anew {t : SetTable} {hs : Array Int} {want m : Nat} (hw : SetTable.sizeAbove want - 1 = m) (F : Full m) (hn : hs.size ≤ m) :
    ∃ t' ord, t.relaid hs want = some (t', ord) ∧ ord.toList.Perm (List.range hs.size) ∧ TabF t' (ord.toList.map fun i => hs.getD i 0) ∧ t'.mask = m ∧ t'.led = t.led := by
  obtain ⟨ow, e, W⟩ := lay_ok F hn
  have r0 := ris_live (fun j => ow.getD j none) (List.range (m + 1)) (by
    unfold Ris
    first | exact List.pairwise_lt_range | exact List.pairwise_lt_range _)
  have r1 : Ris ((liveOf m ow).map (·.1)) := r0.1
  have r2 : ∀ x ∈ (liveOf m ow).map (·.1), x ≤ m := fun x hx => Nat.le_of_lt_succ (List.mem_range.mp (r0.2 x hx))
  have len : (liveOf m ow).length = hs.size := by
    obtain ⟨ps, p1, p2⟩ := W.ps
    have nd : ((liveOf m ow).map (·.1)).Nodup := List.Pairwise.imp (R := fun a b : Nat => a < b) (fun {a b} (z : a < b) => Nat.ne_of_lt z) r1
    have a := nat_nodup_len ((liveOf m ow).map (·.1)) ps nd fun x hx => by
      obtain ⟨⟨y, k⟩, hq, rfl⟩ := List.mem_map.mp hx
      obtain ⟨b1, b2⟩ := (mem_live W.sz).mp hq
      exact p2 y b1 (by rw [b2]; simp)
    have b := nat_nodup_len (List.range hs.size) ((liveOf m ow).map (·.2)) List.nodup_range fun k hk => by
      obtain ⟨j, b1, b2⟩ := W.all k (by simpa using hk)
      exact List.mem_map.mpr ⟨(j, k), (mem_live W.sz).mpr ⟨b1, b2⟩, rfl⟩
    simp only [List.length_map, List.length_range] at a b
    have z : hs.toList.length = hs.size := rfl
    omega
  refine ⟨tabOf t m ow, ((liveOf m ow).map (·.2)).toArray, by rw [relaid_eq, hw, e]; rfl, ?_, ?_, rfl, rfl⟩
  · refine perm_range hs.size _ (by simpa using len) fun k hk => ?_
    obtain ⟨j, b1, b2⟩ := W.all k (by simpa using hk)
    exact List.mem_map.mpr ⟨(j, k), (mem_live W.sz).mpr ⟨b1, b2⟩, rfl⟩
  · refine ⟨r1, rfl, by show ((liveOf m ow).map (·.1)).toArray.size = _; simp, F, r2, fun i h j a b => ?_⟩
    have b' : ((liveOf m ow).map (·.1))[i]? = some j := b
    have a' : (((liveOf m ow).map (·.2)).map fun i => hs.getD i 0)[i]? = some h := a
    rw [List.getElem?_map] at b'
    rw [List.getElem?_map, List.getElem?_map] at a'
    cases hq : (liveOf m ow)[i]? with
    | none => rw [hq] at b'; cases b'
    | some q =>
      obtain ⟨y, k⟩ := q
      rw [hq] at a' b'
      cases b'
      have eh : hs.getD k 0 = h := Option.some.inj a'
      obtain ⟨b1, b2⟩ := (mem_live W.sz).mp (List.mem_of_getElem? hq)
      obtain ⟨h0, K, c1, c2, c3⟩ := W.at_ _ k b1 b2
      have e0 : hs.getD k 0 = h0 := by rw [Array.getD_eq_getD_getElem?, ← Array.getElem?_toList, c1]; rfl
      rw [e0] at eh
      subst eh
      refine ⟨K, c2, fun c hc => ?_⟩
      show way m h0 c ∈ (liveOf m ow).map (·.1)
      cases z : oAt ow (way m h0 c) with
      | none => exact absurd z (c3 c hc)
      | some k2 => exact List.mem_map.mpr ⟨(way m h0 c, k2), (mem_live W.sz).mpr ⟨way_in h0 c, z⟩, rfl⟩
end SN
/-! Sets of nested tuples: what is asked of a key; the search. -/
namespace SN
open PySem PySem.Spec PyProof.Rows L2
abbrev IsN (h : Heap) (k : NestedKey) (a : Addr) : Prop := NestedIs h k (.ref a) ∧ k.depth ≤ 8
section
variable {P : Program} {w : World} {A : Around} {E : Value → Shared → Prop} {s : Shared}
theorem isN_keep {h h' : Heap} {k : NestedKey} {a : Addr} (x : IsN h k a) (hk : ∀ c o, h.get? c = some o → h'.get? c = some o) : IsN h' k a :=
  ⟨NestedIs.at (fun b ob vs n hb _ => hk b ob hb) k _ x.1, x.2⟩
theorem isN_same {h h' : Heap} {k : NestedKey} {a b : Addr} {o : Obj} {es : Array (Int × Value)} {ep : Nat} {t : SetTable} (x : IsN h k b) (ho : h.get? a = some o) (hd : o.data = .set es ep t) (hs : Heap.SameBut a h h') : IsN h' k b :=
  ⟨NestedIs.at (fun c ob vs n hb hc => by
    refine (hs.2 c fun e => ?_).trans hb
    rw [e, ho] at hb
    cases hb
    rw [hd] at hc
    cases hc) k _ x.1, x.2⟩
/-! ### small questions -/
theorem cls_flat {n : Nat} {v : Value} (h : ∀ a, v ≠ .ref a) : ofAClassStatement n v = pure false := by
  cases v <;> first | (cases n <;> rfl) | exact absurd rfl (h _)
mutual
theorem cls_key : ∀ (k : NestedKey) (v : Value) (n : Nat) (Q : Bool → Shared → Prop), NestedIs s.heap k v → k.depth ≤ n → Q false s → wpAny (model P w) A (ofAClassStatement n v) Q E s
  | .none, _, n, Q, x, _, q => by cases x; rw [cls_flat (v := .none) (fun _ h => nomatch h)]; exact wpAny_pure q
  | .num i, _, n, Q, x, _, q => by
    cases x with
    | @bool c _ _ => rw [cls_flat (v := .bool c) (fun _ h => nomatch h)]; exact wpAny_pure q
    | int _ t => rw [cls_flat (v := .int i t) (fun _ h => nomatch h)]; exact wpAny_pure q
  | .text y, _, n, Q, x, _, q => by
    cases x with
    | text _ t => rw [cls_flat (v := .str y t) (fun _ h => nomatch h)]; exact wpAny_pure q
  | .tup ks, _, n, Q, x, hn, q => by
    cases x with
    | @tup a o vs m _ hg hc hd hk =>
      simp only [NestedKey.depth] at hn
      cases n with
      | zero => omega
      | succ n =>
        unfold ofAClassStatement
        refine wpAny_bind (wpAny_typeOf ⟨o, hg, hc⟩ ?_)
        have e : (("tuple" : String) == "tuple") = true := by decide
        simp only [e, if_true, Bool.not_true, Bool.false_eq_true, if_false]
        try refine wpAny_bind (wpAny_pure ?_)
        try simp only [Bool.not_true, Bool.false_eq_true, if_false]
        refine wpAny_bind (wpAny_seqItems hg hd ?_)
        refine wpAny_bind ?_
        show wpAny _ _ (forIn vs _ _) _ _ s
        rw [← Array.forIn_toList]
        have all := cls_keys ks vs.toList n hk (by omega)
        refine wpAny_forIn_list _ (fun rest r s' => r.1 = none ∧ s' = s ∧ ∀ v ∈ rest, ∀ Q : Bool → Shared → Prop, Q false s → wpAny (model P w) A (ofAClassStatement n v) Q E s) _ ?_ ?_ _ _ ⟨rfl, rfl, all⟩
        · rintro v rest r s' ⟨hr, rfl, h1⟩
          refine wpAny_bind (h1 v List.mem_cons_self _ ?_)
          simp only [Bool.false_eq_true, if_false]
          exact wpAny_pure ⟨rfl, rfl, fun u hu => h1 u (List.mem_cons_of_mem _ hu)⟩
        · rintro ⟨r1, r2⟩ s' ⟨hr, rfl, _⟩
          simp only at hr
          subst hr
          exact wpAny_pure q
theorem cls_keys : ∀ (ks : List NestedKey) (vs : List Value) (n : Nat), NestedAll s.heap ks vs → NestedKey.depthAll ks ≤ n → ∀ v ∈ vs, ∀ Q : Bool → Shared → Prop, Q false s → wpAny (model P w) A (ofAClassStatement n v) Q E s
  | [], _, n, x, _, v, hv, _, _ => by cases x; cases hv
  | k :: ks, _, n, x, hn, v, hv, Q, q => by
    cases x with
    | cons x1 x2 =>
      simp only [NestedKey.depthAll] at hn
      rcases List.mem_cons.mp hv with e | hv
      · rw [e]; exact cls_key k _ n Q x1 (by omega) q
      · exact cls_keys ks _ n x2 (by omega) v hv Q q
end
theorem hby_flat {n : Nat} {v : Value} (h : ∀ a, v ≠ .ref a) (hf : ∀ b t, v ≠ .float b t) : ∃ b, hashByValue n v = pure b := by
  cases v <;> first | exact absurd rfl (h _) | exact absurd rfl (hf _ _) | (cases n <;> exact ⟨_, rfl⟩)
mutual
theorem hby_key : ∀ (k : NestedKey) (v : Value) (n : Nat) (Q : Bool → Shared → Prop), NestedIs s.heap k v → k.depth ≤ n → (∀ b, Q b s) → wpAny (model P w) A (hashByValue n v) Q E s
  | .none, _, n, Q, x, _, q => by cases x; obtain ⟨b, e⟩ := hby_flat (n := n) (v := .none) (fun _ h => nomatch h) (fun _ _ h => nomatch h); rw [e]; exact wpAny_pure (q b)
  | .num i, _, n, Q, x, _, q => by
    cases x with
    | @bool c _ _ => obtain ⟨b, e⟩ := hby_flat (n := n) (v := .bool c) (fun _ h => nomatch h) (fun _ _ h => nomatch h); rw [e]; exact wpAny_pure (q b)
    | int _ t => obtain ⟨b, e⟩ := hby_flat (n := n) (v := .int i t) (fun _ h => nomatch h) (fun _ _ h => nomatch h); rw [e]; exact wpAny_pure (q b)
  | .text y, _, n, Q, x, _, q => by
    cases x with
    | text _ t => obtain ⟨b, e⟩ := hby_flat (n := n) (v := .str y t) (fun _ h => nomatch h) (fun _ _ h => nomatch h); rw [e]; exact wpAny_pure (q b)
  | .tup ks, _, n, Q, x, hn, q => by
    cases x with
    | @tup a o vs m _ hg hc hd hk =>
      simp only [NestedKey.depth] at hn
      cases n with
      | zero => omega
      | succ n =>
        unfold hashByValue
        refine wpAny_bind (wpAny_specialOf (show s.TypeIs (.ref a) "tuple" from ⟨o, hg, hc⟩) F.slot_tuple_hash.lookup ?_)
        show wpAny _ _ (seqItems? (.ref a) >>= _) _ _ s
        refine wpAny_bind (wpAny_seqItems hg hd ?_)
        refine wpAny_bind ?_
        show wpAny _ _ (forIn vs _ _) _ _ s
        rw [← Array.forIn_toList]
        have all := hby_keys ks vs.toList n hk (by omega)
        refine wpAny_forIn_list _ (fun rest r s' => r.1 = none ∧ s' = s ∧ ∀ v ∈ rest, ∀ Q : Bool → Shared → Prop, (∀ b, Q b s) → wpAny (model P w) A (hashByValue n v) Q E s) _ ?_ ?_ _ _ ⟨rfl, rfl, all⟩
        · rintro v rest r s' ⟨hr, rfl, h1⟩
          refine wpAny_bind (h1 v List.mem_cons_self _ fun b => ?_)
          cases b
          · simp only [Bool.not_false, if_true]
            exact wpAny_pure (wpAny_pure (q _))
          · simp only [Bool.not_true, Bool.false_eq_true, if_false]
            exact wpAny_pure ⟨rfl, rfl, fun u hu => h1 u (List.mem_cons_of_mem _ hu)⟩
        · rintro ⟨r1, r2⟩ s' ⟨hr, rfl, _⟩
          simp only at hr
          subst hr
          exact wpAny_pure (q _)
theorem hby_keys : ∀ (ks : List NestedKey) (vs : List Value) (n : Nat), NestedAll s.heap ks vs → NestedKey.depthAll ks ≤ n → ∀ v ∈ vs, ∀ Q : Bool → Shared → Prop, (∀ b, Q b s) → wpAny (model P w) A (hashByValue n v) Q E s
  | [], _, n, x, _, v, hv, _, _ => by cases x; cases hv
  | k :: ks, _, n, x, hn, v, hv, Q, q => by
    cases x with
    | cons x1 x2 =>
      simp only [NestedKey.depthAll] at hn
      rcases List.mem_cons.mp hv with e | hv
      · rw [e]; exact hby_key k _ n Q x1 (by omega) q
      · exact hby_keys ks _ n x2 (by omega) v hv Q q
end
theorem unseen {k : NestedKey} {b : Addr} {Q : Bool → Shared → Prop} (hk : IsN s.heap k b) {ys : List Value} (hy : ∀ y ∈ ys, ∃ k' c, y = Value.ref c ∧ IsN s.heap k' c) (q : Q false s) : wpAny (model P w) A (searchCouldBeSeen (.ref b) ys) Q E s := by
  unfold searchCouldBeSeen
  refine wpAny_bind ?_
  refine wpAny_forIn_list _ (fun rest r s' => r.1 = none ∧ s' = s ∧ ∀ y ∈ rest, ∃ k' c, y = Value.ref c ∧ IsN s.heap k' c) _ ?_ ?_ _ _ ⟨rfl, rfl, hy⟩
  · rintro v rest r s' ⟨hr, rfl, h1⟩
    obtain ⟨k', c, rfl, hc⟩ := h1 v List.mem_cons_self
    have h2 : ∀ y ∈ rest, ∃ k' c, y = Value.ref c ∧ IsN s'.heap k' c := fun u hu => h1 u (List.mem_cons_of_mem _ hu)
    dsimp only
    by_cases hv : (b == c || (carriedByValue (.ref b) && carriedByValue (.ref c))) = true
    · exact wp_if_pos hv (wpAny_pure ⟨rfl, rfl, h2⟩)
    · refine wp_if_neg hv ?_
      refine wpAny_bind (quiet_key k _ 8 s' hk.1 hk.2 A E _ ?_)
      simp only [Bool.not_true, Bool.false_eq_true, if_false]
      refine wpAny_bind (quiet_key k' _ 8 s' hc.1 hc.2 A E _ ?_)
      simp only [Bool.not_true, Bool.false_eq_true, if_false]
      refine wpAny_bind (cls_key k _ 8 _ hk.1 hk.2 ?_)
      simp only [Bool.false_eq_true, if_false]
      refine wpAny_bind (cls_key k' _ 8 _ hc.1 hc.2 ?_)
      simp only [Bool.false_eq_true, if_false]
      exact wpAny_pure ⟨rfl, rfl, h2⟩
  · rintro ⟨r1, r2⟩ s' ⟨hr, rfl, _⟩
    simp only at hr
    subst hr
    exact wpAny_pure q
theorem key_eq {x y : NestedKey} {a b : Addr} {Q : Bool → Shared → Prop} (hu : A.units + 8 < cLine) (hx : IsN s.heap x a) (hy : IsN s.heap y b) (q : Q (decide (x = y)) s) : wpAny (model P w) A (eqBool (.ref a) (.ref b)) Q E s :=
  eqAt_key x y A s _ _ hx.1 hy.1 (by have := hx.2; omega) _ _ _ _ (by rw [← NestedKey.decide_eq]; exact q)
end
/-! ### the set -/
abbrev hN (w : World) (p : Addr × NestedKey) : Int := p.2.hash w
def rowN (w : World) (L : List (Addr × NestedKey)) : List (Int × Value) := L.map fun p => (hN w p, Value.ref p.1)
structure SetN (w : World) (h : Heap) (a : Addr) (L : List (Addr × NestedKey)) (es : Array (Int × Value)) (ep : Nat) (t : SetTable) : Prop where
  ob : ∃ o, h.get? a = some o ∧ o.ExactSet ∧ o.data = .set es ep t
  rows : es.toList = rowN w L
  tab : TabF t (L.map (hN w))
  nd : (L.map (·.2)).Nodup
  key : ∀ p ∈ L, IsN h p.2 p.1
  led : w.params.followText "set-order" = true ∨ t.led = true
  room : L.length * 5 < t.mask * 3
  few : L.length < 300
  msk : t.mask = 7 ∨ t.mask = 31 ∨ t.mask = 127 ∨ t.mask = 511
section
variable {P : Program} {w : World} {A : Around} {E : Value → Shared → Prop} {s : Shared} {a : Addr} {L : List (Addr × NestedKey)} {es : Array (Int × Value)} {ep : Nat} {t : SetTable}
theorem rowN_len {es : Array (Int × Value)} {L : List (Addr × NestedKey)} (h : es.toList = rowN w L) : es.size = L.length := by
  have := congrArg List.length h
  simpa [rowN] using this
theorem SetN.size (S : SetN w s.heap a L es ep t) : es.size = L.length := rowN_len S.rows
theorem SetN.fits (S : SetN w s.heap a L es ep t) : t.fits es.size = true := by
  have a1 := S.tab.len
  have a2 := S.size
  have a3 := S.room
  simp only [List.length_map] at a1
  unfold SetTable.fits SetTable.fill
  rw [S.tab.nod, Bool.and_eq_true, beq_iff_eq, decide_eq_true_eq]
  exact ⟨by omega, by show t.place.size + 0 ≤ t.mask; omega⟩
theorem SetN.at (S : SetN w s.heap a L es ep t) {i : Nat} {p : Addr × NestedKey} (h : L[i]? = some p) : es[i]? = some (hN w p, Value.ref p.1) := by
  rw [← Array.getElem?_toList, S.rows, rowN, List.getElem?_map, h]
  rfl
theorem SetN.holds (S : SetN w s.heap a L es ep t) : ¬ t.gaveWay = true := by
  unfold SetTable.gaveWay
  rw [S.tab.full.odd]
  decide
theorem seek (S : SetN w s.heap a L es ep t) {x : Addr} {k : NestedKey} (hx : IsN s.heap k x) (hu : A.units + 8 < cLine) {K : Nat} (hKf : K < 10 * SetTable.turns t.mask)
    (hK : way t.mask (k.hash w) K ∉ t.place.toList) (hKb : ∀ c, c < K → way t.mask (k.hash w) c ∈ t.place.toList) {Q : SetFound → Shared → Prop}
    (qin : k ∈ L.map (·.2) → Q (.there none) s) (qout : k ∉ L.map (·.2) → Q (.free (way t.mask (k.hash w) K) false) s) :
    ∀ (f c : Nat) (st : Option SetTable.Probe), st.getD (t.probeStart (k.hash w)) = nth t.mask (runAt t.mask (SetTable.bits (k.hash w) % (t.mask + 1)) (SetTable.bits (k.hash w))) c → c ≤ K → K - c < f →
      (∀ (i : Nat) p, L[i]? = some p → p.2 = k → ∃ d, c ≤ d ∧ d < K ∧ t.place.toList[i]? = some (way t.mask (k.hash w) d)) →
      wpAny (model P w) A (setSearchFrom a (.ref x) (k.hash w) true f st) Q E s
  | 0, c, st, _, _, hf, _ => absurd hf (Nat.not_lt_zero _)
  | f + 1, c, st, hst, hc, hf, hre => by
    obtain ⟨o, ho, hex, hd⟩ := S.ob
    generalize hp0 : runAt t.mask (SetTable.bits (k.hash w) % (t.mask + 1)) (SetTable.bits (k.hash w)) = p0 at hst
    have wayE : ∀ q, (nth t.mask p0 q).j = way t.mask (k.hash w) q := fun q => by rw [← hp0]
    have mid : ∀ q, nth t.mask (nth t.mask p0 c) q = nth t.mask p0 (c + q) := fun q => (nth_add t.mask c _ q).symm
    have midj : ∀ q, (nth t.mask (nth t.mask p0 c) q).j = way t.mask (k.hash w) (c + q) := fun q => by rw [mid, wayE]
    have noD : (nth t.mask p0 c).dummy = none := by
      have go : ∀ (n : Nat) (p : SetTable.Probe), p.dummy = none → (nth t.mask p n).dummy = none := fun n => by
        induction n with
        | zero => exact fun _ z => z
        | succ n ih => exact fun p z => ih (adv t.mask p) (by unfold adv; split <;> exact z)
      exact go c _ (by rw [← hp0]; rfl)
    let hAt : Nat → Int := fun i => (es[i]?.map (·.1)).getD 0
    have hAtE : ∀ (i : Nat) p, L[i]? = some p → hAt i = hN w p := fun i p hp => by
      show (es[i]?.map (·.1)).getD 0 = _
      rw [S.at hp]; rfl
    have spec := go_spec t S.tab.up S.tab.nod hAt (k.hash w) (10 * SetTable.turns t.mask) (K - c) (nth t.mask p0 c) noD (by omega)
      (fun q hq => by rw [midj]; exact hKb _ (by omega)) (by rw [midj, show c + (K - c) = K by omega]; exact hK)
    rw [setSearchFrom_succ]
    refine wpAny_bind (wpAny_setState_of ho hd S.fits ?_)
    dsimp only
    refine wp_if_neg S.holds ?_
    try refine wpAny_bind (wpAny_pure ?_)
    rcases spec with ⟨q, i, hq, hi, hh, hno, hpr⟩ | ⟨hno, hpr⟩
    · have pr : t.probe hAt (k.hash w) (st.getD (t.probeStart (k.hash w))) = some (.candidate (way t.mask (k.hash w) (c + q)) i (nth t.mask p0 (c + (q + 1)))) := by
        rw [hst, ← midj, ← mid]
        exact hpr
      rw [show (fun i => (es[i]?.map (·.1)).getD 0) = hAt from rfl, pr]
      dsimp only
      rw [midj] at hi
      have lt : i < L.length := by
        have b1 := (List.getElem?_eq_some_iff.mp hi).1
        have b2 := S.tab.len
        rw [List.length_map] at b2
        rw [Array.length_toList] at b1
        omega
      obtain ⟨p, hp⟩ : ∃ p, L[i]? = some p := ⟨L[i], List.getElem?_eq_getElem lt⟩
      have mem : p ∈ L := List.mem_of_getElem? hp
      have live : t.slot (way t.mask (k.hash w) (c + q)) = .live i := slot_live S.tab.up hi
      have tail : wpAny (model P w) A (searchRest a (.ref x) (k.hash w) true f es t (way t.mask (k.hash w) (c + q)) i (nth t.mask p0 (c + (q + 1)))) Q E s := by
        unfold searchRest
        rw [S.at hp]
        dsimp only
        refine wpAny_bind (wpAny_holding (key_eq hu (S.key p mem) hx ?_))
        refine wpAny_bind (wpAny_setState_of ho hd S.fits ?_)
        dsimp only
        by_cases same : p.2 = k
        · refine wp_if_pos (by simp [same]) (wpAny_pure (qin ?_))
          exact List.mem_map.mpr ⟨p, mem, same⟩
        · refine wp_if_neg (by simp [same]) ?_
          try refine wpAny_bind (wpAny_pure ?_)
          rw [sameMem]
          dsimp only
          simp only [if_true, live, S.at hp]
          refine wpAny_bind (wpAny_isSame_ref_self (wpAny_bind (wpAny_pure ?_)))
          simp only [if_true]
          refine wp_if_neg (by simp [same]) ?_
          refine seek S hx hu hKf hK hKb qin qout f (c + (q + 1)) _ (by rw [← hp0]; rfl) (by omega) (by omega) fun i0 r h0 hk0 => ?_
          obtain ⟨d, d1, d2, d3⟩ := hre i0 r h0 hk0
          refine ⟨d, ?_, d2, d3⟩
          rcases Nat.lt_trichotomy d (c + q) with z | z | z
          · refine absurd ?_ (hno (d - c) i0 (by omega) (by rw [midj, show c + (d - c) = d by omega]; exact d3))
            rw [hAtE i0 r h0]
            exact congrArg (NestedKey.hash w) hk0
          · rw [z] at d3
            have s0 := slot_live S.tab.up d3
            rw [live] at s0
            injection s0 with s0
            rw [← s0, hp] at h0
            cases h0
            exact absurd hk0 same
          · omega
      by_cases hl : t.led = true
      · refine wp_if_neg (by simp [hl]) ?_
        try refine wpAny_bind (wpAny_pure ?_)
        exact tail
      · refine wp_if_pos (by simp [hl]) ?_
        refine wpAny_bind (unseen hx (fun y hy => ?_) ?_)
        · obtain ⟨e, he, rfl⟩ := List.mem_map.mp hy
          have he1 : e ∈ es ∧ e.1 = k.hash w := by simpa using he
          have he2 : e ∈ es.toList := by simpa using he1.1
          rw [S.rows] at he2
          obtain ⟨r, hr, rfl⟩ := List.mem_map.mp he2
          exact ⟨r.2, r.1, rfl, S.key r hr⟩
        · refine wp_if_neg (by decide) ?_
          try refine wpAny_bind (wpAny_pure ?_)
          exact tail
    · have pr : t.probe hAt (k.hash w) (st.getD (t.probeStart (k.hash w))) = some (.empty (way t.mask (k.hash w) K) none) := by
        have e2 : way t.mask (k.hash w) K = (nth t.mask (nth t.mask p0 c) (K - c)).j := by rw [midj, show c + (K - c) = K by omega]
        rw [hst, e2]
        exact hpr
      rw [show (fun i => (es[i]?.map (·.1)).getD 0) = hAt from rfl, pr]
      dsimp only
      refine wpAny_pure (qout fun hm => ?_)
      obtain ⟨r, h0, hk0⟩ := List.mem_map.mp hm
      obtain ⟨i0, h00⟩ := List.getElem?_of_mem h0
      obtain ⟨d, d1, d2, d3⟩ := hre i0 r h00 hk0
      refine absurd ?_ (hno (d - c) i0 (by omega) (by rw [midj, show c + (d - c) = d by omega]; exact d3))
      rw [hAtE i0 r h00]
      exact congrArg (NestedKey.hash w) hk0
theorem seek_at (S : SetN w s.heap a L es ep t) {x : Addr} {k : NestedKey} (hx : IsN s.heap k x) (hu : A.units + 8 < cLine) {Q : SetFound → Shared → Prop}
    (qin : k ∈ L.map (·.2) → Q (.there none) s)
    (qout : ∀ K, k ∉ L.map (·.2) → way t.mask (k.hash w) K ∉ t.place.toList → (∀ c, c < K → way t.mask (k.hash w) c ∈ t.place.toList) → Q (.free (way t.mask (k.hash w) K) false) s) :
    wpAny (model P w) A (setSearch a (.ref x) (k.hash w) true) Q E s := by
  have rm := S.room
  obtain ⟨K, k1, k2, k3⟩ := S.tab.gap (by rw [List.length_map]; omega) (k.hash w)
  have big : 10 * SetTable.turns t.mask ≤ 6000 := by
    unfold SetTable.turns
    rcases S.msk with e | e | e | e <;> omega
  unfold setSearch
  refine seek S hx hu k1 k2 k3 qin (fun hn => qout K hn k2 k3) 100000 0 none rfl (Nat.zero_le _) (by omega) fun i p hp hk => ?_
  have hi : (L.map (hN w))[i]? = some (k.hash w) := by rw [List.getElem?_map, hp, ← hk]; rfl
  have lt : i < t.place.toList.length := by
    have b1 := (List.getElem?_eq_some_iff.mp hp).1
    have b2 := S.tab.len
    rw [List.length_map] at b2
    rw [Array.length_toList]
    omega
  obtain ⟨d, d1, d2⟩ := S.tab.ahead k2 hi (List.getElem?_eq_getElem lt)
  exact ⟨d, Nat.zero_le _, d1, by rw [d2]; exact List.getElem?_eq_getElem lt⟩
end
end SN
/-! Sets of nested tuples: one added; all of a list. -/
namespace SN
open PySem PySem.Spec PyProof.Rows L2
theorem grow5 : SetTable.sizeAbove (SetTable.grown 5) = 32 := size_20
theorem grow19 : SetTable.sizeAbove (SetTable.grown 19) = 128 := size_76
theorem grow77 : SetTable.sizeAbove (SetTable.grown 77) = 512 := by decide +kernel
theorem put_rows (w : World) (L : List (Addr × NestedKey)) (n : Nat) (x : Addr × NestedKey) : rowN w (L.take n ++ x :: L.drop n) = (rowN w L).take n ++ (hN w x, Value.ref x.1) :: (rowN w L).drop n := by
  simp [rowN, List.map_take, List.map_drop]
theorem reord {w : World} {L : List (Addr × NestedKey)} {es : Array (Int × Value)} {ord : Array Nat} (hr : es.toList = rowN w L) (hp : ord.toList.Perm (List.range L.length)) :
    ∃ M, (ord.filterMap (es[·]?)).toList = rowN w M ∧ M.Perm L ∧ M.map (hN w) = ord.toList.map fun i => (es.map (·.1)).getD i 0 := by
  have sz := rowN_len hr
  have at_ : ∀ i (h : i < L.length), es[i]? = some (hN w L[i], Value.ref L[i].1) := fun i h => by
    rw [← Array.getElem?_toList, hr, rowN, List.getElem?_map, List.getElem?_eq_getElem h]; rfl
  have go : ∀ l : List Nat, (∀ i ∈ l, i < L.length) → l.filterMap (fun i => es[i]?) = rowN w (l.filterMap fun i => L[i]?) ∧ (l.filterMap fun i => L[i]?).map (hN w) = l.map fun i => (es.map (·.1)).getD i 0 := fun l => by
    induction l with
    | nil => exact fun _ => ⟨rfl, rfl⟩
    | cons i l ih =>
      intro hl
      have hi := hl i List.mem_cons_self
      obtain ⟨a, b⟩ := ih fun j hj => hl j (List.mem_cons_of_mem _ hj)
      have c : L[i]? = some L[i] := List.getElem?_eq_getElem hi
      have d : (es.map (·.1)).getD i 0 = hN w L[i] := by
        have : (es.map (·.1))[i]? = some (hN w L[i]) := by rw [Array.getElem?_map, at_ i hi]; rfl
        simp [Array.getD_eq_getD_getElem?, this]
      constructor
      · rw [List.filterMap_cons_some (at_ i hi), List.filterMap_cons_some c, a]; rfl
      · rw [List.filterMap_cons_some c, List.map_cons, List.map_cons, b, d]
  obtain ⟨a, b⟩ := go ord.toList fun i hi => List.mem_range.mp (hp.mem_iff.mp hi)
  refine ⟨ord.toList.filterMap fun i => L[i]?, by first | (rw [Array.toList_filterMap]; exact a) | simpa using a, ?_, b⟩
  have h1 := hp.filterMap fun i => L[i]?
  have h2 : ∀ n, n ≤ L.length → (List.range n).filterMap (fun i => L[i]?) = L.take n := fun n => by
    induction n with
    | zero => exact fun _ => rfl
    | succ n ih =>
      intro hn
      have c : L[n]? = some L[n] := List.getElem?_eq_getElem hn
      rw [List.range_succ, List.filterMap_append, ih (Nat.le_of_lt hn), List.take_succ, c, List.filterMap_cons_some c]
      rfl
  rw [h2 L.length (Nat.le_refl _), List.take_length] at h1
  exact h1
section
variable {P : Program} {w : World} {A : Around} {E : Value → Shared → Prop} {s : Shared} {a : Addr} {L : List (Addr × NestedKey)} {es : Array (Int × Value)} {ep : Nat} {t : SetTable}
theorem relay {o : Obj} (ho : s.heap.get? a = some o) (hex : o.ExactSet) (hd : o.data = .set es ep t) (hr : es.toList = rowN w L) (hpl : t.place.size = es.size) (hdm : t.dummies = #[]) (hfl : es.size ≤ t.mask)
    (nd : (L.map (·.2)).Nodup) (key : ∀ p ∈ L, IsN s.heap p.2 p.1) (ld : w.params.followText "set-order" = true ∨ t.led = true) (few : L.length < 300) {want m : Nat}
    (hw : SetTable.sizeAbove want - 1 = m) (F : Full m) (mk : m = 7 ∨ m = 31 ∨ m = 127 ∨ m = 511) (room : L.length * 5 < m * 3) {Q : Unit → Shared → Prop}
    (q : ∀ h' M es' ep' t', Heap.SameBut a s.heap h' → SetN w h' a M es' ep' t' → M.Perm L → Q () { s with heap := h' }) : wpAny (model P w) A (setRelay a want) Q E s := by
  have sz := rowN_len hr
  have fits : t.fits es.size = true := by
    unfold SetTable.fits SetTable.fill
    rw [hdm, Bool.and_eq_true, beq_iff_eq, decide_eq_true_eq]
    exact ⟨hpl, by show t.place.size + 0 ≤ t.mask; omega⟩
  have lim : SetTable.sizeAbove want ≤ 512 := by rcases mk with e | e | e | e <;> omega
  obtain ⟨t', ord, e1, e2, e3, e4, e5⟩ := anew (t := t) (hs := es.map (·.1)) hw F (by rw [Array.size_map]; omega)
  rw [Array.size_map, sz] at e2
  obtain ⟨M, r1, r2, r3⟩ := reord hr e2
  rw [← r3] at e3
  have sz2 : (ord.filterMap (es[·]?)).size = es.size := by rw [rowN_len r1, r2.length_eq, sz]
  rw [setRelay_eq]
  refine wpAny_bind (wpAny_setState_of ho hd fits ?_)
  dsimp only
  refine wp_if_neg (by rw [sizeLine_eq]; omega) ?_
  try refine wpAny_bind (wpAny_pure ?_)
  rw [e1]
  dsimp only
  refine wpAny_bind ?_
  refine wp_if_neg (by rw [sz2]; simp) ?_
  try refine wpAny_bind (wpAny_pure ?_)
  refine wpAny_pure ?_
  dsimp only
  refine wpAny_storeSet_of ho hd ?_ (by rw [sz2, sz, sizeLine_eq]; omega)
  have sb : Heap.SameBut a s.heap (s.heap.update a (Obj.putSet (ord.filterMap (es[·]?)) t')) := Heap.SameBut.update ..
  exact q _ M _ (ep + 1) t' sb ⟨⟨_, store_at ho hd, ⟨hex.1, hex.2.1, hex.2.2⟩, rfl⟩, r1, e3, (r2.map _).nodup_iff.mpr nd, fun p hp => isN_same (key p (r2.mem_iff.mp hp)) ho hd sb, by rw [e5]; exact ld, by rw [r2.length_eq, e4]; exact room, by rw [r2.length_eq]; exact few, by rw [e4]; exact mk⟩ r2
theorem put_in (S : SetN w s.heap a L es ep t) {x : Addr} {k : NestedKey} (hx : IsN s.heap k x) (hu : A.units + 8 < cLine) (few : L.length + 1 < 300) {Q : Bool → Shared → Prop}
    (q : ∀ b h' M es' ep' t', Heap.SameBut a s.heap h' → SetN w h' a M es' ep' t' → (k ∈ L.map (·.2) → M = L) → (k ∉ L.map (·.2) → M.Perm ((x, k) :: L)) → Q b { s with heap := h' }) :
    wpAny (model P w) A (setAddHashed a (.ref x) (k.hash w)) Q E s := by
  obtain ⟨o, ho, hex, hd⟩ := S.ob
  have sz := S.size
  have room := S.room
  unfold setAddHashed
  refine wpAny_holding ?_
  rw [show (100000 : Nat) = 99999 + 1 from rfl, setAddHashedIn_succ]
  refine wpAny_bind (wpAny_setState_of ho hd S.fits ?_)
  dsimp only
  refine wp_if_neg (by simp [byScan, Value.scannable]) ?_
  try refine wpAny_bind (wpAny_pure ?_)
  refine wpAny_bind (seek_at S hx hu (fun hm => ?_) fun K hm hK hb => ?_)
  · dsimp only
    exact wpAny_pure (q false s.heap L es ep t (Heap.SameBut.refl a s.heap) S (fun _ => rfl) fun z => absurd hm z)
  · dsimp only
    refine wpAny_bind (wpAny_setState_of ho hd S.fits ?_)
    dsimp only
    obtain ⟨p1, p2, p3, p4, p5, p6⟩ := S.tab.add hK hb
    generalize hpt : t.put (way t.mask (k.hash w) K) = pt at p2 p3 p4 p5 p6 ⊢
    obtain ⟨t1, n⟩ := pt
    dsimp only at p2 p3 p4 p5 p6 ⊢
    subst p2
    generalize hn : SetTable.below t.place (way t.mask (k.hash w) K) = n at p1 p3 ⊢
    have rows1 : (SetTable.insertAt es n (k.hash w, Value.ref x)).toList = rowN w (L.take n ++ (x, k) :: L.drop n) := by
      rw [SetTable.toList_insertAt, put_rows, S.rows]
    have pm := put_perm L n (x, k)
    have len1 : (L.take n ++ (x, k) :: L.drop n).length = L.length + 1 := pm.length_eq
    have hashes1 : (L.take n ++ (x, k) :: L.drop n).map (hN w) = (L.map (hN w)).take n ++ k.hash w :: (L.map (hN w)).drop n := by
      simp [List.map_take, List.map_drop]
    rw [← hashes1] at p3
    have nd1 : ((L.take n ++ (x, k) :: L.drop n).map (·.2)).Nodup := (pm.map (·.2)).nodup_iff.mpr (List.nodup_cons.mpr ⟨hm, S.nd⟩)
    generalize hes1 : SetTable.insertAt es n (k.hash w, Value.ref x) = es1 at rows1 ⊢
    generalize L.take n ++ (x, k) :: L.drop n = L1 at pm len1 p3 nd1 rows1
    have sz1 := rowN_len rows1
    -- behind the question of the hash
    have next : ∀ b : Bool, wpAny (model P w) A (do
        storeSet a es1 (if b = true then t1 else { t1 with plain := false })
        if (!false && (if b = true then t1 else { t1 with plain := false }).tooFull) = true then setRelay a (SetTable.grown (es.size + 1))
        pure true) Q E s := fun b => by
      have tabB : TabF (if b = true then t1 else { t1 with plain := false }) (L1.map (hN w)) := by cases b <;> first | exact p3 | exact p3.plain false
      have mB : (if b = true then t1 else { t1 with plain := false }).mask = t.mask := by cases b <;> exact p4
      have lB : (if b = true then t1 else { t1 with plain := false }).led = t.led := by cases b <;> exact p5
      have fB : (if b = true then t1 else { t1 with plain := false }).fill = (L.map (hN w)).length + 1 := by cases b <;> exact p6
      generalize (if b = true then t1 else { t1 with plain := false }) = t2 at tabB mB lB fB ⊢
      refine wpAny_bind (wpAny_storeSet_of ho hd ?_ (by rw [sz1, len1, sizeLine_eq]; omega))
      have sb : Heap.SameBut a s.heap (s.heap.update a (Obj.putSet es1 t2)) := Heap.SameBut.update ..
      have ho1 := store_at (es' := es1) (t' := t2) ho hd
      generalize s.heap.update a (Obj.putSet es1 t2) = h1 at sb ho1 ⊢
      have key1 : ∀ p ∈ L1, IsN h1 p.2 p.1 := fun p hp => by
        rcases List.mem_cons.mp (pm.mem_iff.mp hp) with rfl | hp
        · exact isN_same hx ho hd sb
        · exact isN_same (S.key p hp) ho hd sb
      have ld1 : w.params.followText "set-order" = true ∨ t2.led = true := by rw [lB]; exact S.led
      by_cases hf : t2.tooFull = true
      · have full : (L.length + 1) * 5 ≥ t.mask * 3 := by
          have z := hf
          unfold SetTable.tooFull at z
          rw [decide_eq_true_eq, fB, List.length_map, mB] at z
          exact z
        have pl1 : t2.place.size = es1.size := by rw [tabB.len, List.length_map, sz1]
        have go : ∀ m, SetTable.sizeAbove (SetTable.grown (L.length + 1)) - 1 = m → Full m → (m = 7 ∨ m = 31 ∨ m = 127 ∨ m = 511) → (L.length + 1) * 5 < m * 3 → L.length + 1 ≤ t.mask →
            wpAny (model P w) A (setRelay a (SetTable.grown (L.length + 1))) (fun _ s' => wpAny (model P w) A (pure true) Q E s') E { s with heap := h1 } := fun m g1 g2 g3 g4 g5 => by
          refine relay (s := { s with heap := h1 }) ho1 ⟨hex.1, hex.2.1, hex.2.2⟩ rfl rows1 pl1 tabB.nod (by rw [sz1, len1, mB]; exact g5) nd1 key1 ld1 (by rw [len1]; exact few) g1 g2 g3 (by rw [len1]; exact g4) ?_
          intro h2 M es2 ep2 t3 sb2 S2 pm2
          exact wpAny_pure (q true h2 M es2 ep2 t3 (sb.trans sb2) S2 (fun z => absurd z hm) fun _ => pm2.trans pm)
        have done : wpAny (model P w) A (setRelay a (SetTable.grown (L.length + 1))) (fun _ s' => wpAny (model P w) A (pure true) Q E s') E { s with heap := h1 } := by
          rcases S.msk with e | e | e | e
          · have : L.length = 4 := by rw [e] at full room; omega
            exact go 31 (by rw [this, grow5]) (full_of (.inr (.inl rfl))) (.inr (.inl rfl)) (by omega) (by omega)
          · have : L.length = 18 := by rw [e] at full room; omega
            exact go 127 (by rw [this, grow19]) (full_of (.inr (.inr rfl))) (.inr (.inr (.inl rfl))) (by omega) (by omega)
          · have : L.length = 76 := by rw [e] at full room; omega
            exact go 511 (by rw [this, grow77]) full511 (.inr (.inr (.inr rfl))) (by omega) (by omega)
          · rw [e] at full; omega
        rw [sz]
        first
          | (refine wpAny_bind ?_; refine wp_if_pos (by simp [hf]) ?_; exact done)
          | (refine wp_if_pos (by simp [hf]) ?_; exact wpAny_bind done)
      · have ok : SetN w h1 a L1 es1 (ep + 1) t2 := ⟨⟨_, ho1, ⟨hex.1, hex.2.1, hex.2.2⟩, rfl⟩, rows1, tabB, nd1, key1, ld1, by
          have z := hf
          unfold SetTable.tooFull at z
          rw [decide_eq_true_eq, fB, List.length_map] at z
          rw [len1]
          omega, by rw [len1]; exact few, by rw [mB]; exact S.msk⟩
        have last : wpAny (model P w) A (pure true) Q E { s with heap := h1 } := wpAny_pure (q true h1 L1 es1 (ep + 1) t2 sb ok (fun z => absurd z hm) fun _ => pm)
        first
          | exact wp_if_neg (by simp [hf]) last
          | exact wpAny_bind (wp_if_neg (by simp [hf]) (wpAny_pure last))
    by_cases hp : t1.plain = true
    · first
        | (refine wpAny_bind ?_; refine wp_if_pos hp ?_; exact hby_key k _ 8 _ hx.1 hx.2 fun b => next b)
        | exact wp_if_pos hp (wpAny_bind (hby_key k _ 8 _ hx.1 hx.2 fun b => next b))
    · first
        | (refine wpAny_bind ?_; refine wp_if_neg hp ?_; exact wpAny_pure (next true))
        | exact wp_if_neg hp (next true)
        | exact wp_if_neg hp (wpAny_bind (wpAny_pure (next true)))
end
end SN
/-! set(a list of nested tuples). -/
namespace SN
open PySem PySem.Spec PyProof.Rows L2
/-- what stands in the set behind the first i items -/
structure Has (ks : List (Addr × NestedKey)) (i : Nat) (L : List (Addr × NestedKey)) : Prop where
  from_ : ∀ p ∈ L, p ∈ ks.take i
  each : ∀ p ∈ ks.take i, p.2 ∈ L.map (·.2)
  le : L.length ≤ i
theorem Has.none (ks : List (Addr × NestedKey)) : Has ks 0 [] := ⟨nofun, fun p h => by simp at h, Nat.le_refl _⟩
theorem Has.again {ks L : List (Addr × NestedKey)} {i : Nat} {x : Addr × NestedKey} (g : Has ks i L) (h : ks[i]? = some x) (hm : x.2 ∈ L.map (·.2)) : Has ks (i + 1) L := by
  have e := take_next h
  refine ⟨fun p hp => by rw [e]; exact List.mem_append_left _ (g.from_ p hp), fun p hp => ?_, Nat.le_succ_of_le g.le⟩
  rw [e] at hp
  rcases List.mem_append.mp hp with z | z
  · exact g.each p z
  · rw [List.mem_singleton.mp z]; exact hm
theorem Has.next {ks L M : List (Addr × NestedKey)} {i : Nat} {x : Addr × NestedKey} (g : Has ks i L) (h : ks[i]? = some x) (pm : M.Perm (x :: L)) : Has ks (i + 1) M := by
  have e := take_next h
  refine ⟨fun p hp => ?_, fun p hp => ?_, by rw [pm.length_eq, List.length_cons]; exact Nat.succ_le_succ g.le⟩
  · rw [e]
    rcases List.mem_cons.mp (pm.mem_iff.mp hp) with rfl | z
    · exact List.mem_append_right _ (List.mem_singleton.mpr rfl)
    · exact List.mem_append_left _ (g.from_ p z)
  · rw [(pm.map (·.2)).mem_iff, List.map_cons]
    rw [e] at hp
    rcases List.mem_append.mp hp with z | z
    · exact List.mem_cons_of_mem _ (g.each p z)
    · rw [List.mem_singleton.mp z]; exact List.mem_cons_self
abbrev newSet (w : World) : Obj := { cls := .type "set", dict := none, data := .set #[] 0 (.fresh 0 0 (!w.params.followText "set-order")) }
section
variable {P : Program} {w : World} {A : Around} {E : Value → Shared → Prop} {s : Shared}
theorem SetN.mono {h h' : Heap} {a : Addr} {L : List (Addr × NestedKey)} {es : Array (Int × Value)} {ep : Nat} {t : SetTable} (S : SetN w h a L es ep t) (ha : ∀ o, h.get? a = some o → h'.get? a = some o) (hk : ∀ p ∈ L, IsN h' p.2 p.1) : SetN w h' a L es ep t := by
  obtain ⟨o, ho, r⟩ := S.ob
  exact ⟨⟨o, ha o ho, r⟩, S.rows, S.tab, S.nd, hk, S.led, S.room, S.few, S.msk⟩
theorem fresh_ok {h : Heap} {a : Addr} (ho : h.get? a = some (newSet w)) : SetN w h a [] #[] 0 (.fresh 0 0 (!w.params.followText "set-order")) where
  ob := ⟨_, ho, ⟨rfl, rfl, rfl⟩, rfl⟩
  rows := rfl
  tab := ⟨List.Pairwise.nil, rfl, rfl, full_of (.inl rfl), nofun, fun i h j hi => by simp at hi⟩
  nd := List.nodup_nil
  key := nofun
  led := by
    show _ ∨ (!w.params.followText "set-order") = true
    cases w.params.followText "set-order" <;> simp
  room := by show 0 * 5 < 7 * 3; decide
  few := by show 0 < 300; decide
  msk := .inl rfl
theorem fill {I : Addr} {fp wr : List Addr} {G : Array GenState → Array GenState → Prop} {n : Nat} {Pv : Nat → Value → Prop} {St : Nat → Shared → Prop} {R : Result → Shared → Prop}
    (W : WalksS P w A.in1 I fp wr G n Pv St) (B : Addr) (hB : B ∉ fp) (h0 : Heap) (hB0 : h0.get? B = none) (hw0 : ∀ b ∈ wr, h0.get? b = none) (T : Nat → Heap → Prop)
    (keepT : ∀ i h h', (∀ o, h.get? B = some o → h'.get? B = some o) → (∀ b o, h0.get? b = some o → h'.get? b = some o) → T i h → T i h')
    (addT : ∀ (i : Nat) (v : Value) (s1 : Shared) (Q' : Bool → Shared → Prop) (E' : Value → Shared → Prop), i < n → Pv i v → (∀ b o, h0.get? b = some o → s1.heap.get? b = some o) → T i s1.heap → (∀ b h' tk, s1.toks ≤ tk → Heap.SameBut B s1.heap h' → T (i + 1) h' → Q' b { s1 with heap := h', toks := tk }) → wpAny (model P w) A.in1 (setAdd B v) Q' E' s1) :
    ∀ (d i : Nat) (s : Shared), n - i = d → i ≤ n → St i s → (∀ b o, h0.get? b = some o → s.heap.get? b = some o) → T i s.heap →
      (∀ s', Moved (B :: wr) G s s' → T n s'.heap → (∀ b o, h0.get? b = some o → s'.heap.get? b = some o) → R (.ok (.ret .none)) s') →
      codeAny (model P w) A (.builtin "set.update.loop" ⟨[.ref B, .ref I], []⟩) R s := by
  have notw : B ∉ wr := fun h => hB (W.sub _ h)
  have wider : ∀ b ∈ wr, b ∈ B :: wr := fun b hb => List.mem_cons_of_mem _ hb
  have stays : ∀ {s s' : Shared}, Moved wr G s s' → (∀ b o, h0.get? b = some o → s.heap.get? b = some o) → ∀ b o, h0.get? b = some o → s'.heap.get? b = some o := fun hm hkp b o e =>
    hm.heap b o (fun hb => by rw [hw0 b hb] at e; cases e) (hkp b o e)
  intro d
  induction d with
  | zero =>
    intro i s hd hi hst hkp hT fin
    obtain rfl : i = n := by omega
    refine codeAny_builtin F.entry_set_update_loop ?_
    rw [Around.under_plainId F.plain_set_update_loop _]
    show wpAny _ A.in1 (pyNext (.ref I) >>= _) _ _ s
    refine wpAny_bind (W.done s _ _ hst fun s1 hm => ?_)
    show wpAny _ A.in1 (ret Value.none) _ _ s1
    have kp := stays hm hkp
    exact wpAny_pure (fin s1 (hm.mono wider) (keepT _ _ _ (fun o e => hm.heap B o notw e) kp hT) kp)
  | succ d ih =>
    intro i s hd hi hst hkp hT fin
    have lt : i < n := by omega
    refine codeAny_builtin F.entry_set_update_loop ?_
    rw [Around.under_plainId F.plain_set_update_loop _]
    show wpAny _ A.in1 (pyNext (.ref I) >>= _) _ _ s
    refine wpAny_bind (W.item i s _ _ lt hst fun v s1 hP hst1 hm => ?_)
    have kp := stays hm hkp
    show wpAny _ A.in1 (holding [v] (setAdd B v) >>= _) _ _ s1
    refine wpAny_bind (wpAny_holding (addT i v s1 _ _ lt hP kp (keepT _ _ _ (fun o e => hm.heap B o notw e) kp hT) fun b h1 tk le sb T1 => ?_))
    have kp2 : ∀ b o, h0.get? b = some o → h1.get? b = some o := fun b o e => (sb.2 b (fun z => by rw [z, hB0] at e; cases e)).trans (kp b o e)
    refine wpAny_pure ⟨plainId_quiet F.plain_set_update_loop _, ih (i + 1) _ (by omega) lt (W.frame _ s1 _ _ hst1 le fun b hb o e => ?_) kp2 T1 fun s2 hm2 T2 kp3 => ?_⟩
    · rw [sb.2 b (fun z : b = B => hB (by rw [← z]; exact hb))]; exact e
    · refine fin s2 (Moved.trans W.gtrans ((hm.mono wider).then_heap le fun b o hb e => ?_) hm2) T2 kp3
      rw [sb.2 b (fun z : b = B => hb (by rw [z]; exact List.mem_cons_self))]; exact e
theorem set_any {l : Addr} {items : Array Value} {Q : Value → Shared → Prop} (hh : A.handled = none) (hl : s.heap.IsList l items) (T : Nat → Heap → Prop)
    (startT : ∀ h, h.get? s.heap.objs.size = some (newSet w) → (∀ b o, s.heap.get? b = some o → h.get? b = some o) → T 0 h)
    (keepT : ∀ i h h', (∀ o, h.get? s.heap.objs.size = some o → h'.get? s.heap.objs.size = some o) → (∀ b o, s.heap.get? b = some o → h'.get? b = some o) → T i h → T i h')
    (addT : ∀ (A' : Around) (i : Nat) (v : Value) (s1 : Shared) (Q' : Bool → Shared → Prop) (E' : Value → Shared → Prop), A'.units ≤ A.units + 4 → items[i]? = some v → (∀ b o, s.heap.get? b = some o → s1.heap.get? b = some o) → T i s1.heap → (∀ b h' tk, s1.toks ≤ tk → Heap.SameBut s.heap.objs.size s1.heap h' → T (i + 1) h' → Q' b { s1 with heap := h', toks := tk }) → wpAny (model P w) A' (setAdd s.heap.objs.size v) Q' E' s1)
    (q : ∀ (h' : Heap) (tk : Nat), T items.size h' → (∀ b o, s.heap.get? b = some o → h'.get? b = some o) → Q (.ref s.heap.objs.size) { s with heap := h', toks := tk }) :
    wpAny (model P w) A (call (.type "set") [.ref l]) Q E s := by
  obtain ⟨c, tl, hmro⟩ := F.called_set.mro
  have made := F.called_set.made
  have sub := F.called_set.sub
  refine wpAny_call (codeAny_of_tree ?_)
  show wpAny _ _ (callAny (.type "set") _) _ _ _
  refine wpAny_pure ⟨Code.quiet_builtin _ (by decide +kernel), codeAny_builtin F.entry_type_call ?_⟩
  rw [Around.under_plain (weight_type_call_type "set" [.ref l] []) rfl]
  have n1 := F.called_set.notType
  have n2 := F.called_set.canCreate
  have n3 := F.typeCall_set_1 (.ref l)
  repeat (any_goals (first | assumption | wp_step))
  refine codeAny_mono (code_set_led1 (.ref l) (E := E) (Q₁ := fun obj s₁ => obj = .ref s.heap.objs.size ∧ s₁ = { s with heap := s.heap.push (newSet w) }) ⟨rfl, rfl⟩) fun r s₁ hr => ?_
  cases r with
  | error e => exact hr
  | ok fl =>
    cases fl with
    | ret obj =>
      obtain ⟨rfl, rfl⟩ := hr
      have hS : (s.heap.push (newSet w)).get? s.heap.objs.size = some (newSet w) := Heap.get?_push_size _ rfl
      have hT : Shared.TypeIs { s with heap := s.heap.push (newSet w) } (.ref s.heap.objs.size) "set" := ⟨_, hS, rfl⟩
      have i1 := F.called_set.init.lookup
      have i2 := F.called_set.init.bind (.ref s.heap.objs.size)
      repeat (any_goals (first | assumption | wp_step))
      refine codeAny_mono (codeAny_call_builtin (R := wants (fun r s₂ => r = .none ∧ ∃ h' tk, s₂ = { s with heap := h', toks := tk } ∧ T items.size h' ∧
          (∀ b o, s.heap.get? b = some o → h'.get? b = some o)) E) F.called_set.init.plain F.entry_set_init (check_set_init_1 hT ?_)) fun r₂ s₂ hr₂ => ?_
      · obtain ⟨⟨ocls, odict, odata, oslots⟩, hol, hcl, nl, hdl⟩ := id hl
        simp only at hcl hdl
        subst hcl hdl
        have hol1 : (s.heap.push (newSet w)).get? l = some _ := Heap.get?_push_of_some _ hol
        have u1 := F.sub_list_set
        have u2 := F.sub_list_frozenset
        have u3 : (Value.type "list" == Value.type "dict") = false := by decide
        have hl1 : (s.heap.push (newSet w)).IsList l items := ⟨_, hol1, rfl, nl, rfl⟩
        unfold Builtin.«set.__init__» noKeywords Builtin.Frozenset.updateFrom
        generalize hPI : pyIter = PI
        wp_walk
        subst hPI
        refine wpAny_pyIter_list hl1 ?_
        refine wpAny_bind (wpAny_runValue ?_)
        have lS : l < s.heap.objs.size := Heap.lt_size hol
        have hh3 : A.in1.in1.in1.handled = none := by simp [hh]
        have psz : (s.heap.push (newSet w)).objs.size = s.heap.objs.size + 1 := Heap.size_push ..
        have ne1 : l ≠ (s.heap.push (newSet w)).objs.size := by rw [psz]; exact Nat.ne_of_lt (Nat.lt_succ_of_lt lS)
        have ne2 : s.heap.objs.size ∉ [(s.heap.push (newSet w)).objs.size, l] := by
          rw [psz]
          simp only [List.mem_cons, List.not_mem_nil, or_false, not_or]
          exact ⟨Nat.ne_of_lt (Nat.lt_succ_self _), Nat.ne_of_gt lS⟩
        have nope : ∀ b, s.heap.objs.size ≤ b → s.heap.get? b = none := fun b hb => by
          cases z : s.heap.get? b with
          | none => rfl
          | some o => exact absurd (Nat.lt_of_lt_of_le (Heap.lt_size z) hb) (Nat.lt_irrefl _)
        refine fill ((Walks.list hh3 _ l ne1 items).toS) s.heap.objs.size
          ne2 s.heap (nope _ (Nat.le_refl _)) (fun b hb => nope b (by
            rw [List.mem_singleton.mp hb, psz]; exact Nat.le_succ _)) T keepT (fun i v s1 Q' E' lt hv kp hT => addT _ i v s1 Q' E' (by show A.units + 1 + 1 + 1 ≤ _; omega) hv kp hT) (items.size - 0) 0 _ (by omega) (Nat.zero_le _)
          ⟨⟨_, Heap.get?_push_size _ rfl, rfl, rfl⟩, (hl1.push _)⟩ (fun b o e => Heap.get?_push_of_some _ (Heap.get?_push_of_some _ e)) (startT _ (Heap.get?_push_of_some _ hS) fun b o e => Heap.get?_push_of_some _ (Heap.get?_push_of_some _ e)) ?fin
        case fin =>
          intro s' hm hT' kp
          obtain ⟨h', g2, d', tk', os'⟩ := s'
          obtain rfl : g2 = s.gens := hm.gens
          obtain rfl : d' = s.drawn := hm.drawn
          obtain rfl : os' = s.os := hm.os
          show wpAny _ _ _ _ _ _
          refine wpAny_pure ?_
          show wpAny _ _ (ret Value.none) _ _ _
          exact wpAny_pure ⟨rfl, h', tk', rfl, hT', kp⟩
      · cases r₂ with
        | error e => exact hr₂
        | ok fl₂ =>
          cases fl₂ with
          | ret r =>
            obtain ⟨rfl, h', tk, rfl, hT', hk'⟩ := hr₂
            repeat (any_goals (first | assumption | wp_step))
            exact q _ _ hT' hk'
          | _ => exact hr₂.elim
    | _ => exact hr.elim
/-- of nested tuples -/
theorem set_of {l : Addr} {items : Array Value} (ks : List (Addr × NestedKey)) {Q : Value → Shared → Prop} (hh : A.handled = none) (hl : s.heap.IsList l items) (hit : items.toList = ks.map fun p => Value.ref p.1)
    (hk : ∀ p ∈ ks, IsN s.heap p.2 p.1) (few : ks.length < 299) (hu : A.units + 12 < cLine)
    (q : ∀ (h' : Heap) (tk : Nat) L es ep t, SetN w h' s.heap.objs.size L es ep t → Has ks ks.length L → (∀ b o, s.heap.get? b = some o → h'.get? b = some o) → Q (.ref s.heap.objs.size) { s with heap := h', toks := tk }) :
    wpAny (model P w) A (call (.type "set") [.ref l]) Q E s := by
  have len : items.size = ks.length := by
    have := congrArg List.length hit
    simpa using this
  refine set_any hh hl (fun i h => (∃ L es ep t, SetN w h s.heap.objs.size L es ep t ∧ Has ks i L) ∧ i ≤ ks.length) (fun h e kp => ⟨⟨[], #[], 0, _, fresh_ok e, Has.none ks⟩, Nat.zero_le _⟩) (fun i h h' e kp ⟨⟨L, es, ep, t, S, g⟩, hi⟩ => ⟨⟨L, es, ep, t, S.mono e fun p hp => isN_keep (hk p (List.mem_of_mem_take (g.from_ p hp))) kp, g⟩, hi⟩) (fun A' i v s1 Q' E' hA hv kp ⟨⟨L, es, ep, t, S, g⟩, hi⟩ fin => ?_) fun h' tk ⟨⟨L, es, ep, t, S, g⟩, _⟩ kp => q h' tk L es ep t S (by rw [← len]; exact g) kp
  rw [← Array.getElem?_toList, hit, List.getElem?_map] at hv
  obtain ⟨p, hp, rfl⟩ := Option.map_eq_some_iff.mp hv
  have lt := (List.getElem?_eq_some_iff.mp hp).1
  have hx : IsN s1.heap p.2 p.1 := isN_keep (hk p (List.mem_of_getElem? hp)) kp
  unfold setAdd
  refine wpAny_holding ?_
  refine wpAny_bind (pyHash_key p.2 _ _ _ _ hx.1 (by have := hx.2; omega) ?_)
  refine put_in (s := { s1 with toks := s1.toks + p.2.draws }) S hx (by omega) (by have := g.le; omega) fun b h1 M es1 ep1 t1 sb S2 c1 c2 => fin b h1 _ (Nat.le_add_right _ _) sb ⟨⟨M, es1, ep1, t1, S2, ?_⟩, lt⟩
  by_cases c : p.2 ∈ L.map (·.2)
  · rw [c1 c]; exact g.again hp c
  · exact g.next hp (c2 c)
end
end SN
/-! Sets of texts. -/
namespace SN
open PySem PySem.Spec PyProof.Rows L2
def rowS (w : World) (us : List (Str × Tok)) : List (Int × Value) := us.map fun p => (hashStr w p.1, Value.str p.1 p.2)
structure SetS (w : World) (h : Heap) (a : Addr) (l : List Str) : Prop where
  ex : ∃ (o : Obj) (es : Array (Int × Value)) (ep : Nat) (t : SetTable) (us : List (Str × Tok)), h.get? a = some o ∧ o.ExactSet ∧ o.data = .set es ep t ∧ es.toList = rowS w us ∧ (us.map (·.1)).Perm l ∧ t.fits es.size = true ∧ Ris t.place.toList ∧ (w.params.followText "set-order" = true ∨ t.led = true)
  nd : l.Nodup
  few : l.length < 4000
theorem rowS_back {w : World} : ∀ {l : List (Int × Value)} {us : List (Str × Tok)}, l.Perm (rowS w us) → ∃ vs, l = rowS w vs ∧ vs.Perm us := by
  intro l us h
  let g : Int × Value → Str × Tok := fun e => match e.2 with | .str x u => (x, u) | _ => (default, 0)
  have all : ∀ e ∈ l, (hashStr w (g e).1, Value.str (g e).1 (g e).2) = e := fun e he => by
    obtain ⟨p, _, rfl⟩ := List.mem_map.mp (h.mem_iff.mp he)
    rfl
  refine ⟨l.map g, ?_, ?_⟩
  · rw [rowS, List.map_map]
    have : l.map (fun e => (hashStr w (g e).1, Value.str (g e).1 (g e).2)) = l.map id := List.map_congr_left all
    rw [List.map_id] at this
    exact this.symm
  · have := h.map g
    rwa [rowS, List.map_map, show (g ∘ fun p : Str × Tok => (hashStr w p.1, Value.str p.1 p.2)) = id from rfl, List.map_id] at this
section
variable {P : Program} {w : World} {A : Around} {E : Value → Shared → Prop} {s : Shared} {a : Addr} {l : List Str}
theorem SetS.mono {h h' : Heap} (S : SetS w h a l) (ha : ∀ o, h.get? a = some o → h'.get? a = some o) : SetS w h' a l := by
  obtain ⟨o, es, ep, t, us, ho, r⟩ := S.ex
  exact ⟨⟨o, es, ep, t, us, ha o ho, r⟩, S.nd, S.few⟩
theorem freshS {h : Heap} (ho : h.get? a = some (newSet w)) : SetS w h a [] := by
  refine ⟨⟨_, #[], 0, _, [], ho, ⟨rfl, rfl, rfl⟩, rfl, rfl, .nil, rfl, List.Pairwise.nil, ?_⟩, List.nodup_nil, by decide⟩
  show _ ∨ (!w.params.followText "set-order") = true
  cases w.params.followText "set-order" <;> simp
theorem elS {us : List (Str × Tok)} : ElemsOf (strKind P w) (rowS w us) := fun e he => by
  obtain ⟨p, _, rfl⟩ := List.mem_map.mp he
  exact ⟨⟨p.1, by show Value.isStrOf p.1 (.str p.1 p.2) = true; simp [Value.isStrOf], rfl⟩, rfl⟩
theorem isS {x : Str} {e : Int × Value} {p : Str × Tok} (h : e = (hashStr w p.1, Value.str p.1 p.2)) : (strKind P w).is x e.2 = true ↔ p.1 = x := by
  subst h
  show Value.isStrOf x (.str p.1 p.2) = true ↔ _
  simp only [Value.isStrOf]
  constructor
  · intro z; first | exact eq_of_beq z | exact (eq_of_beq z).symm | simpa using z
  · intro z; subst z; simp
theorem tailS {g : Bool → Sem Unit} (hg : ∀ (b : Bool) (s₁ : Shared) (Q' : Unit → Shared → Prop), Q' () s₁ → wpAny (model P w) A (g b) Q' E s₁)
    {o : Obj} {es : Array (Int × Value)} {ep : Nat} {t : SetTable} (ho : s.heap.get? a = some o) (hex : o.ExactSet) (hd : o.data = .set es ep t)
    {es1 : Array (Int × Value)} {t2 : SetTable} {vs : List (Str × Tok)} {l1 : List Str} (hr : es1.toList = rowS w vs) (pm : (vs.map (·.1)).Perm l1) (nd : l1.Nodup) (few : l1.length < 4000)
    (fits : t2.fits es1.size = true) (ris : Ris t2.place.toList) (led : w.params.followText "set-order" = true ∨ t2.led = true) {dum : Bool} {R : Option Bool → Shared → Prop}
    (q : ∀ h', Heap.SameBut a s.heap h' → SetS w h' a l1 → R (some true) { s with heap := h' }) :
    wpAny (model P w) A (do
        storeSet a es1 t2
        if (!dum && t2.tooFull) = true then do
            g (relayAll t2 es1 (SetTable.grown es1.size)).2.2
            storeSet a (relayAll t2 es1 (SetTable.grown es1.size)).1 (relayAll t2 es1 (SetTable.grown es1.size)).2.1
            pure (some true)
          else pure (some true)) R E s := by
  have sz : es1.size = l1.length := by
    have e1 := congrArg List.length hr
    have e2 := pm.length_eq
    simp only [Array.length_toList, rowS, List.length_map] at e1 e2
    omega
  have bound : es1.size < scanBound := by rw [sz]; unfold scanBound; omega
  refine wpAny_bind (wpAny_storeSet_of ho hd ?_ (fits_of_scanBound bound))
  have ho1 := store_at (es' := es1) (t' := t2) ho hd
  have sb1 := Heap.SameBut.update s.heap a (Obj.putSet es1 t2)
  split
  · have b1 := relayAll_perm t2 es1 (SetTable.grown es1.size)
    have b2 := relayAll_fits t2 es1 (SetTable.grown es1.size)
    have b3 := relayAll_ris t2 es1 (SetTable.grown es1.size)
    have b4 := relayAll_led t2 es1 (SetTable.grown es1.size)
    generalize relayAll t2 es1 (SetTable.grown es1.size) = Z at b1 b2 b3 b4 ⊢
    obtain ⟨es2, t3, gave⟩ := Z
    dsimp only at b1 b2 b3 b4 ⊢
    have sz2 : es2.size = es1.size := by rw [← Array.length_toList, b1.length_eq, Array.length_toList]
    rw [hr] at b1
    obtain ⟨us, c1, c2⟩ := rowS_back b1
    refine wpAny_bind (hg _ _ _ (wpAny_bind (wpAny_storeSet_of ho1 rfl ?_ (fits_of_scanBound (by rw [sz2]; exact bound)))))
    have ho2 := store_at (es' := es2) (t' := t3) ho1 rfl
    exact wpAny_pure (q _ (sb1.trans (Heap.SameBut.update _ a _)) ⟨⟨_, es2, _, t3, us, ho2, hex, rfl, c1, (c2.map _).trans pm, b2, b3, led.imp id fun z => by rw [b4]; exact z⟩, nd, few⟩)
  · exact wpAny_pure (q _ sb1 ⟨⟨_, es1, _, t2, vs, ho1, hex, rfl, hr, pm, fits, ris, led⟩, nd, few⟩)
theorem put_text {x : Str} {u : Tok} (S : SetS w s.heap a l) (room : l.length + 1 < 4000) {Q : Bool → Shared → Prop}
    (q : ∀ b h' l', Heap.SameBut a s.heap h' → SetS w h' a l' → (x ∈ l → l' = l) → (x ∉ l → l' = x :: l) → Q b { s with heap := h' }) :
    wpAny (model P w) A (setAddHashed a (.str x u) (hashStr w x)) Q E s := by
  obtain ⟨o, es, ep, t, us, ho, hex, hd, hr, pm, fits, ris, led⟩ := S.ex
  have sz : es.size = l.length := by
    have e1 := congrArg List.length hr
    have e2 := pm.length_eq
    simp only [Array.length_toList, rowS, List.length_map] at e1 e2
    omega
  have sb0 : es.size < scanBound := by rw [sz]; unfold scanBound; omega
  have hel : ElemsOf (strKind P w) es.toList := by rw [hr]; exact elS
  have key : (strKind P w).is x (.str x u) = true := (isS (w := w) (P := P) (p := (x, u)) rfl).mpr rfl
  have mem : x ∈ l ↔ ∃ p ∈ us, p.1 = x := by
    rw [← pm.mem_iff]
    simp
  have gaveOk : ∀ (b : Bool) {s₁ : Shared} {Q' : Unit → Shared → Prop}, Q' () s₁ → wpAny (model P w) A (match b with | true => rule "set.scan.the-table-gave-way" | false => pure ()) Q' E s₁ :=
    fun b s₁ Q' z => by cases b <;> first | exact wpAny_pure z | exact wpAny_rule z
  unfold setAddHashed setAddHashedIn
  refine wpAny_holding (wpAny_bind (wpAny_setState_of ho hd fits ?_))
  dsimp only
  rw [byScan_of (knd := strKind P w) (x := .str x u) rfl sb0 hel]
  simp only [↓reduceIte]
  unfold setAddByScan
  refine wpAny_bind (wpAny_bind (wpAny_rule (wpAny_bind (wpAny_setScan_of (knd := strKind P w) (k := x) key ho hd fits hel ?_))))
  cases hfi : List.findIdx? (fun e => (strKind P w).is x e.2) es.toList with
  | some j =>
    dsimp only
    obtain ⟨hj, pj, _⟩ := List.findIdx?_eq_some_iff_getElem.mp hfi
    have inl : x ∈ l := by
      have e1 : es.toList[j] ∈ rowS w us := by rw [← hr]; exact List.getElem_mem hj
      obtain ⟨p, hp, e2⟩ := List.mem_map.mp e1
      exact mem.mpr ⟨p, hp, (isS e2.symm).mp pj⟩
    exact wpAny_pure (wpAny_pure (q false s.heap l (Heap.SameBut.refl a s.heap) S (fun _ => rfl) fun z => absurd inl z))
  | none =>
    dsimp only
    have out : x ∉ l := fun z => by
      obtain ⟨p, hp, e1⟩ := mem.mp z
      have c := List.findIdx?_eq_none_iff.mp hfi (hashStr w p.1, Value.str p.1 p.2) (by rw [hr]; exact List.mem_map.mpr ⟨p, hp, rfl⟩)
      rw [(isS (p := p) rfl).mpr e1] at c
      cases c
    have b1 := layNew_perm t es (hashStr w x) (.str x u)
    have b2 := layNew_fits t es (hashStr w x) (.str x u)
    have b3 := layNew_ris t es (hashStr w x) (.str x u) ris
    have b4 := layNew_led t es (hashStr w x) (.str x u)
    generalize layNew t es (hashStr w x) (.str x u) = Z at b1 b2 b3 b4 ⊢
    obtain ⟨es1, t1, dum, gave⟩ := Z
    dsimp only at b1 b2 b3 b4 ⊢
    rw [Array.toList_push, hr] at b1
    have b5 : es1.toList.Perm (rowS w ((x, u) :: us)) := b1.trans (List.perm_append_singleton _ _)
    obtain ⟨vs, c1, c2⟩ := rowS_back b5
    have c3 : (vs.map (·.1)).Perm (x :: l) := (c2.map _).trans (pm.cons x)
    have led1 : w.params.followText "set-order" = true ∨ t1.led = true := led.imp id fun z => by rw [b4]; exact z
    have nd1 : (x :: l).Nodup := List.nodup_cons.mpr ⟨out, S.nd⟩
    refine wpAny_bind (gaveOk _ ?_)
    have fin : ∀ h', Heap.SameBut a s.heap h' → SetS w h' a (x :: l) → Q true { s with heap := h' } := fun h' sb z => q true h' _ sb z (fun y => absurd y out) fun _ => rfl
    by_cases hp : t1.plain = true
    · rw [if_pos hp]
      refine wpAny_bind ?_
      rw [hashByValue_scannable 8 (x := Value.str x u) rfl]
      refine wpAny_pure ?_
      refine tailS ?_ ho hex hd c1 c3 nd1 (by simpa using room) ?_ ?_ ?_ ?_
      · intro b s₁ Q' z; cases b <;> first | exact wpAny_pure z | exact wpAny_rule z
      · first | (split <;> first | exact b2 | exact SetTable.fits_plain_off b2) | exact b2
      · first | (split <;> exact b3) | exact b3
      · first | (split <;> exact led1) | exact led1
      · intro h' sb z; dsimp only; exact wpAny_pure (fin h' sb z)
    · rw [if_neg hp]
      refine wpAny_bind (wpAny_pure ?_)
      simp only [↓reduceIte]
      refine tailS ?_ ho hex hd c1 c3 nd1 (by simpa using room) b2 b3 led1 ?_
      · intro b s₁ Q' z; cases b <;> first | exact wpAny_pure z | exact wpAny_rule z
      · intro h' sb z; dsimp only; exact wpAny_pure (fin h' sb z)
/-- set(a list of texts) -/
theorem set_texts {l0 : Addr} {items : Array Value} (us : List (Str × Tok)) {Q : Value → Shared → Prop} (hh : A.handled = none) (hl : s.heap.IsList l0 items) (hit : items.toList = us.map fun p => Value.str p.1 p.2) (few : us.length < 3000) (hu : A.units + 12 < cLine)
    (q : ∀ (h' : Heap) (tk : Nat) l, SetS w h' s.heap.objs.size l → (∀ x, x ∈ l ↔ ∃ p ∈ us, p.1 = x) → (∀ b o, s.heap.get? b = some o → h'.get? b = some o) → Q (.ref s.heap.objs.size) { s with heap := h', toks := tk }) :
    wpAny (model P w) A (call (.type "set") [.ref l0]) Q E s := by
  have len : items.size = us.length := by
    have := congrArg List.length hit
    simpa using this
  refine set_any hh hl (fun i h => (∃ l, SetS w h s.heap.objs.size l ∧ (∀ x, x ∈ l ↔ ∃ p ∈ us.take i, p.1 = x) ∧ l.length ≤ i) ∧ i ≤ us.length) (fun h e kp => ⟨⟨[], freshS e, by simp, Nat.le_refl _⟩, Nat.zero_le _⟩) (fun i h h' e kp ⟨⟨l, S, g⟩, hi⟩ => ⟨⟨l, S.mono e, g⟩, hi⟩) (fun A' i v s1 Q' E' hA hv kp ⟨⟨l, S, g, gl⟩, hi⟩ fin => ?_) fun h' tk ⟨⟨l, S, g, _⟩, _⟩ kp => q h' tk l S (fun x => by rw [g x, len, List.take_length]) kp
  rw [← Array.getElem?_toList, hit, List.getElem?_map] at hv
  obtain ⟨p, hp, rfl⟩ := Option.map_eq_some_iff.mp hv
  have lt := (List.getElem?_eq_some_iff.mp hp).1
  have tn := take_next hp
  unfold setAdd
  refine wpAny_holding ?_
  refine wpAny_bind ((strKind P w).pyHash (k := p.1) ((isS (w := w) (P := P) (p := p) rfl).mpr rfl) ?_)
  refine put_text (s := { s1 with toks := s1.toks + 1 }) S (by omega) fun b h1 M sb S2 c1 c2 => fin b h1 _ (Nat.le_add_right _ _) sb ⟨⟨M, S2, fun x => ?_, ?_⟩, lt⟩
  · rw [tn]
    by_cases c : p.1 ∈ l
    · rw [c1 c, g x]
      constructor
      · rintro ⟨r, hr, e⟩; exact ⟨r, List.mem_append_left _ hr, e⟩
      · rintro ⟨r, hr, e⟩
        rcases List.mem_append.mp hr with z | z
        · exact ⟨r, z, e⟩
        · rw [List.mem_singleton.mp z] at e
          rw [← e]; exact (g p.1).mp c
    · rw [c2 c, List.mem_cons, g x]
      constructor
      · rintro (rfl | ⟨r, hr, e⟩)
        · exact ⟨p, List.mem_append_right _ (List.mem_singleton.mpr rfl), rfl⟩
        · exact ⟨r, List.mem_append_left _ hr, e⟩
      · rintro ⟨r, hr, e⟩
        rcases List.mem_append.mp hr with z | z
        · exact .inr ⟨r, z, e⟩
        · rw [List.mem_singleton.mp z] at e
          exact .inl e.symm
  · by_cases c : p.1 ∈ l
    · rw [c1 c]; omega
    · rw [c2 c, List.length_cons]; omega
end
/-! ### as tracked things -/
structure SetN0 (w : World) (h : Heap) (a : Addr) (L : List (Addr × NestedKey)) : Prop where
  ex : ∃ es ep t, (∃ o, h.get? a = some o ∧ o.ExactSet ∧ o.data = .set es ep t) ∧ es.toList = rowN w L ∧ TabF t (L.map (hN w)) ∧ (L.map (·.2)).Nodup ∧ (w.params.followText "set-order" = true ∨ t.led = true) ∧ L.length * 5 < t.mask * 3 ∧ L.length < 300 ∧ (t.mask = 7 ∨ t.mask = 31 ∨ t.mask = 127 ∨ t.mask = 511)
theorem SetN.bare {w : World} {h : Heap} {a : Addr} {L : List (Addr × NestedKey)} {es : Array (Int × Value)} {ep : Nat} {t : SetTable} (S : SetN w h a L es ep t) : SetN0 w h a L := ⟨es, ep, t, S.ob, S.rows, S.tab, S.nd, S.led, S.room, S.few, S.msk⟩
theorem SetN0.full {w : World} {h : Heap} {a : Addr} {L : List (Addr × NestedKey)} (S : SetN0 w h a L) (hk : ∀ p ∈ L, IsN h p.2 p.1) : ∃ es ep t, SetN w h a L es ep t := by
  obtain ⟨es, ep, t, a1, a2, a3, a4, a5, a6, a7, a8⟩ := S.ex
  exact ⟨es, ep, t, a1, a2, a3, a4, hk, a5, a6, a7, a8⟩
def SetNO (w : World) (a : Addr) (L : List (Addr × NestedKey)) : HO := .ext fun h => SetN0 w h a L
def SetSO (w : World) (a : Addr) (l : List Str) : HO := .ext fun h => SetS w h a l
theorem setNO_ok {w : World} {P : Program} {H : Hp} {h : Heap} {a : Addr} {L : List (Addr × NestedKey)} (S : SetN0 w h a L) : ObjOk P w H h a (SetNO w a L) := by
  obtain ⟨es, ep, t, ⟨o, ho, r⟩, _⟩ := S.ex
  refine ⟨S, ⟨o, ho⟩, fun h1 h2 p k => ?_⟩
  obtain ⟨es', ep', t', ⟨o', ho', r'⟩, q⟩ := (show SetN0 w h1 a L from p).ex
  exact (show SetN0 w h2 a L from ⟨es', ep', t', ⟨o', k o' ho', r'⟩, q⟩)
theorem setSO_ok {w : World} {P : Program} {H : Hp} {h : Heap} {a : Addr} {l : List Str} (S : SetS w h a l) : ObjOk P w H h a (SetSO w a l) := by
  obtain ⟨o, es, ep, t, us, ho, r⟩ := S.ex
  exact ⟨S, ⟨o, ho⟩, fun h1 h2 p k => (show SetS w h2 a l from (show SetS w h1 a l from p).mono k)⟩
end SN
/-! The D layer: data without addresses, a memory of what may change, denotations; readings of the judgements by denotations. -/
namespace DL
open PySem PySem.Spec L2

/-- data: a tuple stands by its items, a thing that may change by its number -/
inductive D where
  | non | bl (b : Bool) | int (i : Int) | str (x : Str) | tup (xs : List D) | ref (l : Nat)

mutual
def D.decD : (a b : D) → Decidable (a = b)
  | .non, .non => .isTrue rfl
  | .bl a, .bl b => if h : a = b then .isTrue (by rw [h]) else .isFalse fun e => h (D.bl.inj e)
  | .int a, .int b => if h : a = b then .isTrue (by rw [h]) else .isFalse fun e => h (D.int.inj e)
  | .str a, .str b => if h : a = b then .isTrue (by rw [h]) else .isFalse fun e => h (D.str.inj e)
  | .ref a, .ref b => if h : a = b then .isTrue (by rw [h]) else .isFalse fun e => h (D.ref.inj e)
  | .tup a, .tup b => match D.decDs a b with
    | .isTrue h => .isTrue (by rw [h])
    | .isFalse h => .isFalse fun e => h (D.tup.inj e)
  | .non, .bl _ | .non, .int _ | .non, .str _ | .non, .tup _ | .non, .ref _ => .isFalse fun e => nomatch e
  | .bl _, .non | .bl _, .int _ | .bl _, .str _ | .bl _, .tup _ | .bl _, .ref _ => .isFalse fun e => nomatch e
  | .int _, .non | .int _, .bl _ | .int _, .str _ | .int _, .tup _ | .int _, .ref _ => .isFalse fun e => nomatch e
  | .str _, .non | .str _, .bl _ | .str _, .int _ | .str _, .tup _ | .str _, .ref _ => .isFalse fun e => nomatch e
  | .tup _, .non | .tup _, .bl _ | .tup _, .int _ | .tup _, .str _ | .tup _, .ref _ => .isFalse fun e => nomatch e
  | .ref _, .non | .ref _, .bl _ | .ref _, .int _ | .ref _, .str _ | .ref _, .tup _ => .isFalse fun e => nomatch e
def D.decDs : (a b : List D) → Decidable (a = b)
  | [], [] => .isTrue rfl
  | a :: as, b :: bs => match D.decD a b, D.decDs as bs with
    | .isTrue h, .isTrue k => .isTrue (by rw [h, k])
    | .isFalse h, _ => .isFalse fun e => h (List.cons.inj e).1
    | _, .isFalse k => .isFalse fun e => k (List.cons.inj e).2
  | [], _ :: _ => .isFalse fun e => nomatch e
  | _ :: _, [] => .isFalse fun e => nomatch e
end
instance : DecidableEq D := D.decD
instance : Inhabited D := ⟨.non⟩

/-- what may change -/
inductive MO where
  | lst (xs : List D)
  /-- a list that is read alone -/
  | frl (xs : List D)
  | dct (kvs : List (D × D))
  | stt (xs : List D)
  deriving DecidableEq
def MO.mut : MO → Bool
  | .frl _ => false
  | _ => true
abbrev Mem := List MO
abbrev En := List (Option D)

inductive R (α : Type) where
  | ok (a : α) (m : Mem)
  | exn (c : Str) (fs : List (Str × D)) (m : Mem)
  | stk
def R.bind {α β : Type} : R α → (α → Mem → R β) → R β
  | .ok a m, f => f a m
  | .exn c fs m, _ => .exn c fs m
  | .stk, _ => .stk
theorem R.bind_ok {α β : Type} (a : α) (m : Mem) (f : α → Mem → R β) : (R.ok a m).bind f = f a m := rfl
theorem R.bind_exn {α β : Type} (c : Str) (fs : List (Str × D)) (m : Mem) (f : α → Mem → R β) : (R.exn c fs m).bind f = .exn c fs m := rfl
theorem R.bind_stk {α β : Type} (f : α → Mem → R β) : (R.stk).bind f = .stk := rfl
theorem R.bind_assoc {α β γ : Type} (r : R α) (f : α → Mem → R β) (g : β → Mem → R γ) : (r.bind f).bind g = r.bind fun a m => (f a m).bind g := by
  cases r <;> rfl

/-! ### keys -/
def D.key : D → Option Key
  | .int i => some (.inl i)
  | .str x => some (.inr x)
  | _ => none
mutual
def D.nk : D → Option NestedKey
  | .non => some .none
  | .int i => some (.num i)
  | .str x => some (.text x)
  | .tup xs => (D.nks xs).map .tup
  | .bl _ => none
  | .ref _ => none
def D.nks : List D → Option (List NestedKey)
  | [] => some []
  | d :: ds => match D.nk d, D.nks ds with
    | some k, some ks => some (k :: ks)
    | _, _ => none
end
/-- a dict whose keys are tuples, by what is true of its object -/
def dN (w : World) (a : Addr) (xs : List (NestedKey × Addr × V)) : HO := .ext fun h => (a == sysModules) = false ∧ xs.length ≤ sizeLine ∧
  ∃ ys : List (NestedKey × Addr × Value), Paired (fun (p : NestedKey × Addr × V) (q : NestedKey × Addr × Value) => p.1 = q.1 ∧ p.2.1 = q.2.1 ∧ RelV p.2.2 q.2.2) xs ys ∧
    ∃ o es ep, h.get? a = some o ∧ o.ExactDict ∧ o.data = .dict es ep ∧ es.toList = ys.map (fun y => (⟨y.1.hash w, .ref y.2.1, y.2.2⟩ : DictEntry)) ∧ (ys.map (·.1)).Nodup

/-! ### the relation -/
section
variable (K : PySem.W.Frag)
/-- a tuple's items, for ever -/
def TupAt (H : Hp) (a : Addr) (vs : List V) : Prop := H a = some (.tup vs) ∨
  ∃ (o : Obj) (its : Array Value) (n : Nat), K.lookup a = some o ∧ o.cls = .type "tuple" ∧ o.data = .seq its n ∧ its.size ≤ sizeLine ∧ Vals vs its.toList
theorem TupAt.sq {K : PySem.W.Frag} {H : Hp} {a : Addr} {vs : List V} (h : TupAt K H a vs) : SqT K H a vs := h.elim (fun z => .inl (.inl z)) .inr
mutual
def Rep (ι : Nat → Addr) (n : Nat) (H : Hp) : D → V → Prop
  | .non, v => v = .non
  | .bl b, v => v = .bl b
  | .int i, v => v = .int i
  | .str x, v => v = .str x
  | .ref l, v => l < n ∧ v = .ref (ι l)
  | .tup ds, v => ∃ a vs, v = .ref a ∧ TupAt K H a vs ∧ Reps ι n H ds vs
def Reps (ι : Nat → Addr) (n : Nat) (H : Hp) : List D → List V → Prop
  | [], vs => vs = []
  | d :: ds, vs => ∃ v r, vs = v :: r ∧ Rep ι n H d v ∧ Reps ι n H ds r
end
end

/-- from a state to a later one -/
structure Step (ι : Nat → Addr) (n : Nat) (H : Hp) (ι' : Nat → Addr) (n' : Nat) (H' : Hp) : Prop where
  le : n ≤ n'
  ext : ∀ l, l < n → ι' l = ι l
  tk : ∀ a vs, H a = some (.tup vs) → H' a = some (.tup vs)
  xk : ∀ a gs, H a = some (.xd gs) → H' a = some (.xd gs)
theorem Step.refl (ι : Nat → Addr) (n : Nat) (H : Hp) : Step ι n H ι n H := ⟨Nat.le_refl _, fun _ _ => rfl, fun _ _ h => h, fun _ _ h => h⟩
theorem Step.trans {ι ι1 ι2 : Nat → Addr} {n n1 n2 : Nat} {H H1 H2 : Hp} (a : Step ι n H ι1 n1 H1) (b : Step ι1 n1 H1 ι2 n2 H2) : Step ι n H ι2 n2 H2 :=
  ⟨Nat.le_trans a.le b.le, fun l h => (b.ext l (Nat.lt_of_lt_of_le h a.le)).trans (a.ext l h), fun c vs h => b.tk c vs (a.tk c vs h), fun c vs h => b.xk c vs (a.xk c vs h)⟩

section
variable {K : PySem.W.Frag} {w : World} {ι ι' : Nat → Addr} {n n' : Nat} {H H' : Hp}
theorem TupAt.step (S : Step ι n H ι' n' H') {a : Addr} {vs : List V} (h : TupAt K H a vs) : TupAt K H' a vs := h.elim (fun z => .inl (S.tk _ _ z)) .inr
mutual
theorem Rep.step (S : Step ι n H ι' n' H') : ∀ (d : D) (v : V), Rep K ι n H d v → Rep K ι' n' H' d v
  | .non, _, h => h
  | .bl _, _, h => h
  | .int _, _, h => h
  | .str _, _, h => h
  | .ref l, _, h => by
    obtain ⟨h1, h2⟩ := h
    exact ⟨Nat.lt_of_lt_of_le h1 S.le, by rw [h2, S.ext l h1]⟩
  | .tup ds, _, h => by
    obtain ⟨a, vs, h1, h2, h3⟩ := h
    exact ⟨a, vs, h1, h2.step S, Reps.step S ds vs h3⟩
theorem Reps.step (S : Step ι n H ι' n' H') : ∀ (ds : List D) (vs : List V), Reps K ι n H ds vs → Reps K ι' n' H' ds vs
  | [], _, h => h
  | d :: ds, _, h => by
    obtain ⟨v, r, h1, h2, h3⟩ := h
    exact ⟨v, r, h1, Rep.step S d v h2, Reps.step S ds r h3⟩
end
theorem Reps.length : ∀ {ds : List D} {vs : List V}, Reps K ι n H ds vs → vs.length = ds.length
  | [], vs, h => by rw [show vs = [] from h]; rfl
  | d :: ds, _, h => by
    obtain ⟨v, r, rfl, _, h3⟩ := h
    rw [List.length_cons, List.length_cons, Reps.length h3]
theorem Reps.nil : Reps K ι n H [] [] := rfl
theorem Reps.cons {d : D} {v : V} {ds : List D} {vs : List V} (h : Rep K ι n H d v) (hs : Reps K ι n H ds vs) : Reps K ι n H (d :: ds) (v :: vs) := ⟨v, vs, rfl, h, hs⟩
theorem Reps.get : ∀ {ds : List D} {vs : List V} {i : Nat} {d : D}, Reps K ι n H ds vs → ds[i]? = some d → ∃ v, vs[i]? = some v ∧ Rep K ι n H d v
  | [], _, _, _, _, e => by simp at e
  | d :: ds, _, 0, _, h, e => by
    obtain ⟨v, r, rfl, h2, h3⟩ := h
    simp at e; subst e
    exact ⟨v, rfl, h2⟩
  | d :: ds, _, i + 1, x, h, e => by
    obtain ⟨v, r, rfl, h2, h3⟩ := h
    obtain ⟨u, h1, h2⟩ := Reps.get (i := i) (d := x) h3 (by simpa using e)
    exact ⟨u, by simpa using h1, h2⟩
theorem Reps.append : ∀ {ds es : List D} {vs us : List V}, Reps K ι n H ds vs → Reps K ι n H es us → Reps K ι n H (ds ++ es) (vs ++ us)
  | [], _, _, _, h, g => by
    rw [show _ = [] from h]; exact g
  | d :: ds, _, _, _, h, g => by
    obtain ⟨v, r, rfl, h2, h3⟩ := h
    exact ⟨v, r ++ _, rfl, h2, Reps.append h3 g⟩
theorem Reps.take : ∀ {ds : List D} {vs : List V} (k : Nat), Reps K ι n H ds vs → Reps K ι n H (ds.take k) (vs.take k)
  | [], _, k, h => by
    rw [show _ = [] from h]
    simp [Reps]
  | d :: ds, _, 0, h => by simp [Reps]
  | d :: ds, _, k + 1, h => by
    obtain ⟨v, r, rfl, h2, h3⟩ := h
    exact ⟨v, _, rfl, h2, Reps.take k h3⟩
theorem Reps.drop : ∀ {ds : List D} {vs : List V} (k : Nat), Reps K ι n H ds vs → Reps K ι n H (ds.drop k) (vs.drop k)
  | [], _, k, h => by
    rw [show _ = [] from h]
    simp [Reps]
  | d :: ds, _, 0, h => h
  | d :: ds, _, k + 1, h => by
    obtain ⟨v, r, rfl, h2, h3⟩ := h
    exact Reps.drop k h3
theorem Reps.set {d : D} {v : V} (r : Rep K ι n H d v) : ∀ {ds : List D} {vs : List V} (k : Nat), Reps K ι n H ds vs → Reps K ι n H (ds.set k d) (vs.set k v)
  | [], _, k, h => by
    rw [show _ = [] from h]
    simp [Reps]
  | _ :: ds, _, 0, h => by
    obtain ⟨v, r, rfl, h2, h3⟩ := h
    exact ⟨_, _, rfl, by assumption, h3⟩
  | _ :: ds, _, k + 1, h => by
    obtain ⟨v, r', rfl, h2, h3⟩ := h
    exact ⟨_, _, rfl, h2, Reps.set r k h3⟩
theorem Reps.eraseIdx : ∀ {ds : List D} {vs : List V} (k : Nat), Reps K ι n H ds vs → Reps K ι n H (ds.eraseIdx k) (vs.eraseIdx k)
  | [], _, k, h => by
    rw [show _ = [] from h]
    simp [Reps]
  | _ :: ds, _, 0, h => by
    obtain ⟨v, r, rfl, h2, h3⟩ := h
    exact h3
  | _ :: ds, _, k + 1, h => by
    obtain ⟨v, r', rfl, h2, h3⟩ := h
    exact ⟨_, _, rfl, h2, Reps.eraseIdx k h3⟩
theorem Reps.reverse {ds : List D} {vs : List V} (h : Reps K ι n H ds vs) : Reps K ι n H ds.reverse vs.reverse := by
  induction ds generalizing vs with
  | nil => rw [show vs = [] from h]; exact rfl
  | cons d ds ih =>
    obtain ⟨v, r, rfl, h2, h3⟩ := h
    rw [List.reverse_cons, List.reverse_cons]
    exact (ih h3).append (Reps.cons h2 Reps.nil)
theorem Reps.dropLast {ds : List D} {vs : List V} (h : Reps K ι n H ds vs) : Reps K ι n H ds.dropLast vs.dropLast := by
  rw [List.dropLast_eq_take, List.dropLast_eq_take, h.length]
  exact h.take _
end

/-- an object -/
def ObjR (K : PySem.W.Frag) (w : World) (ι : Nat → Addr) (n : Nat) (H : Hp) (a : Addr) : MO → Prop
  | .lst ds => ∃ vs, H a = some (.lst vs) ∧ Reps K ι n H ds vs
  | .frl ds => ∃ vs, Reps K ι n H ds vs ∧ ((∃ ob, H a = some (.frz ob (.lst vs))) ∨
      ∃ (o : Obj) (its : Array Value) (k : Nat), K.lookup a = some o ∧ o.cls = .type "list" ∧ o.dict = none ∧ o.data = .seq its k ∧ its.size ≤ sizeLine ∧ Vals vs its.toList)
  | .dct kvs => (∃ ks : List (Key × V), H a = some (.dK ks) ∧ Paired (fun (p : D × D) (q : Key × V) => p.1.key = some q.1 ∧ Rep K ι n H p.2 q.2) kvs ks) ∨
      (∃ xs : List (NestedKey × Addr × V), H a = some (dN w a xs) ∧ kvs ≠ [] ∧ Paired (fun (p : D × D) (q : NestedKey × Addr × V) => (∃ ds, p.1 = .tup ds) ∧ p.1.nk = some q.1 ∧ q.1.depth ≤ 8 ∧ Rep K ι n H p.1 (.ref q.2.1) ∧ Rep K ι n H p.2 q.2.2) kvs xs)
  | .stt ds => ∃ ds' : List D, ds'.Perm ds ∧ ((∃ l : List Str, ds' = l.map D.str ∧ H a = some (SN.SetSO w a l)) ∨
      ∃ L : List (Addr × NestedKey), H a = some (SN.SetNO w a L) ∧ Paired (fun (d : D) (p : Addr × NestedKey) => (∃ xs, d = .tup xs) ∧ d.nk = some p.2 ∧ p.2.depth ≤ 8 ∧ Rep K ι n H d (.ref p.1)) ds' L ∧ ds' ≠ [])
structure RelM (K : PySem.W.Frag) (w : World) (ι : Nat → Addr) (m : Mem) (H : Hp) : Prop where
  obj : ∀ l o, m[l]? = some o → ObjR K w ι m.length H (ι l) o
  sep : ∀ l l' o o', m[l]? = some o → m[l']? = some o' → o.mut = true → o'.mut = true → ι l = ι l' → l = l'
def RelE (K : PySem.W.Frag) (ι : Nat → Addr) (n : Nat) (H : Hp) (ρ : En) (σ : St) : Prop :=
  ρ.length = σ.length ∧ ∀ (i : Nat) (d : D), ρ[i]? = some (some d) → ∃ v, σ[i]? = some (some v) ∧ Rep K ι n H d v

section
variable {K : PySem.W.Frag} {w : World} {ι ι' : Nat → Addr} {n n' : Nat} {H H' : Hp}
theorem RelE.step (S : Step ι n H ι' n' H') {ρ : En} {σ : St} (h : RelE K ι n H ρ σ) : RelE K ι' n' H' ρ σ :=
  ⟨h.1, fun i d e => let ⟨v, h1, h2⟩ := h.2 i d e; ⟨v, h1, Rep.step S d v h2⟩⟩
theorem RelE.set {ρ : En} {σ : St} (h : RelE K ι n H ρ σ) {d : D} {v : V} (r : Rep K ι n H d v) (i : Nat) : RelE K ι n H (ρ.set i (some d)) (σ.set i (some v)) := by
  refine ⟨by rw [List.length_set, List.length_set]; exact h.1, fun j e q => ?_⟩
  by_cases hj : i = j
  · subst hj
    have hl : i < ρ.length := by
      have := (List.getElem?_eq_some_iff.mp q).1
      rwa [List.length_set] at this
    rw [List.getElem?_set_self hl] at q
    cases q
    exact ⟨v, by rw [List.getElem?_set_self (h.1 ▸ hl)], r⟩
  · rw [List.getElem?_set_ne hj] at q
    obtain ⟨u, h1, h2⟩ := h.2 j e q
    exact ⟨u, by rw [List.getElem?_set_ne hj]; exact h1, h2⟩
theorem Paired.mp {α β : Type} {F G : α → β → Prop} (f : ∀ a b, F a b → G a b) : ∀ {l₁ : List α} {l₂ : List β}, Paired F l₁ l₂ → Paired G l₁ l₂
  | _, _, .nil => .nil
  | _, _, .cons r t => .cons (f _ _ r) (Paired.mp f t)
/-- a mutable object is tracked, and no tuple -/
theorem ObjR.there' {a : Addr} {o : MO} (h : ObjR K w ι n H a o) (hm : o.mut = true) : ∃ ho, H a = some ho ∧ Mut (some ho) ∧ ∀ gs, ho ≠ .xd gs := by
  cases o with
  | lst ds => obtain ⟨vs, e, _⟩ := h; exact ⟨_, e, trivial, fun _ z => by cases z⟩
  | frl ds => cases hm
  | dct kvs =>
    rcases h with ⟨ks, e, _⟩ | ⟨xs, e, _, _⟩
    · exact ⟨_, e, trivial, fun _ z => by cases z⟩
    · exact ⟨_, e, trivial, fun _ z => by cases z⟩
  | stt ds =>
    obtain ⟨ds', _, ⟨l, _, e⟩ | ⟨L, e, _⟩⟩ := h
    · exact ⟨_, e, trivial, fun _ z => by cases z⟩
    · exact ⟨_, e, trivial, fun _ z => by cases z⟩
theorem ObjR.there {a : Addr} {o : MO} (h : ObjR K w ι n H a o) (hm : o.mut = true) : ∃ ho, H a = some ho ∧ Mut (some ho) := let ⟨ho, h1, h2, _⟩ := h.there' hm; ⟨ho, h1, h2⟩
/-- an object whose place is as it was -/
theorem ObjR.step (S : Step ι n H ι' n' H') {a : Addr} {o : MO} (h : ObjR K w ι n H a o) (e : ∀ ho, H a = some ho → H' a = some ho) : ObjR K w ι' n' H' a o := by
  cases o with
  | lst ds =>
    obtain ⟨vs, h1, h2⟩ := h
    exact ⟨vs, e _ h1, Reps.step S _ _ h2⟩
  | frl ds =>
    obtain ⟨vs, h1, h2⟩ := h
    refine ⟨vs, Reps.step S _ _ h1, ?_⟩
    rcases h2 with ⟨ob, h2⟩ | h2
    · exact .inl ⟨ob, e _ h2⟩
    · exact .inr h2
  | dct kvs =>
    rcases h with ⟨ks, h1, h2⟩ | ⟨xs, h1, hne, h2⟩
    · exact .inl ⟨ks, e _ h1, Paired.mp (fun p q z => ⟨z.1, Rep.step S _ _ z.2⟩) h2⟩
    · exact .inr ⟨xs, e _ h1, hne, Paired.mp (fun p q z => ⟨z.1, z.2.1, z.2.2.1, Rep.step S _ _ z.2.2.2.1, Rep.step S _ _ z.2.2.2.2⟩) h2⟩
  | stt ds =>
    obtain ⟨ds', pm, ⟨l, h1, h2⟩ | ⟨L, h1, h2, h3⟩⟩ := h
    · exact ⟨ds', pm, .inl ⟨l, h1, e _ h2⟩⟩
    · exact ⟨ds', pm, .inr ⟨L, e _ h1, Paired.mp (fun p q z => ⟨z.1, z.2.1, z.2.2.1, Rep.step S _ _ z.2.2.2⟩) h2, h3⟩⟩
/-- the read list -/
theorem ObjR.frl_sq {a : Addr} {ds : List D} (h : ObjR K w ι n H a (.frl ds)) : ∃ vs, SqL K H a vs ∧ Reps K ι n H ds vs := by
  obtain ⟨vs, h1, h2⟩ := h
  refine ⟨vs, ?_, h1⟩
  rcases h2 with ⟨ob, h2⟩ | h2
  · exact .inl (.inr ⟨ob, h2⟩)
  · exact .inr h2
theorem lt_of_get {α : Type} {l : List α} {i : Nat} {x : α} (h : l[i]? = some x) : i < l.length := (List.getElem?_eq_some_iff.mp h).1

/-- a new tuple -/
theorem Step.tup {p : Addr} {ho : HO} (hp : H p = none) : Step ι n H ι n (upd H p ho) := ⟨Nat.le_refl _, fun _ _ => rfl, fun a vs h => by rw [upd_ne (ne_of_none h hp)]; exact h, fun a vs h => by rw [upd_ne (ne_of_none h hp)]; exact h⟩
theorem RelM.fresh {m : Mem} (M : RelM K w ι m H) {p : Addr} {ho : HO} (hp : H p = none) : RelM K w ι m (upd H p ho) := by
  refine ⟨fun l o e => (M.obj l o e).step (Step.tup hp) fun h1 h2 => ?_, M.sep⟩
  rw [upd_ne (ne_of_none h2 hp)]; exact h2
/-- the numbering with one more -/
def more (ι : Nat → Addr) (n : Nat) (p : Addr) : Nat → Addr := fun l => if l = n then p else ι l
theorem more_old {p : Addr} {l : Nat} (h : l < n) : more ι n p l = ι l := by unfold more; rw [if_neg (Nat.ne_of_lt h)]
theorem more_new {p : Addr} : more ι n p n = p := by unfold more; rw [if_pos rfl]
theorem Step.new {p : Addr} {ho : HO} (hp : H p = none) : Step ι n H (more ι n p) (n + 1) (upd H p ho) :=
  ⟨Nat.le_succ _, fun l h => more_old h, fun a vs h => by rw [upd_ne (ne_of_none h hp)]; exact h, fun a vs h => by rw [upd_ne (ne_of_none h hp)]; exact h⟩
theorem RelM.new {m : Mem} (M : RelM K w ι m H) {p : Addr} {ho : HO} {o : MO} (hp : H p = none) (ob : ObjR K w (more ι m.length p) (m.length + 1) (upd H p ho) p o) : RelM K w (more ι m.length p) (m ++ [o]) (upd H p ho) := by
  have hl : (m ++ [o]).length = m.length + 1 := by simp
  have old : ∀ l x, (m ++ [o])[l]? = some x → (l < m.length ∧ m[l]? = some x) ∨ (l = m.length ∧ x = o) := fun l x e => by
    have h := lt_of_get e
    rw [hl] at h
    by_cases h2 : l < m.length
    · rw [List.getElem?_append_left h2] at e
      exact .inl ⟨h2, e⟩
    · have h3 : l = m.length := by omega
      subst h3
      rw [List.getElem?_append_right (Nat.le_refl _)] at e
      simp at e
      exact .inr ⟨rfl, e.symm⟩
  refine ⟨fun l x e => ?_, fun l l' x x' e e' hm hm' he => ?_⟩
  · rw [hl]
    rcases old l x e with ⟨h1, h2⟩ | ⟨rfl, rfl⟩
    · rw [more_old h1]
      exact (M.obj l x h2).step (Step.new hp) fun h1 h2 => by rw [upd_ne (ne_of_none h2 hp)]; exact h2
    · rw [more_new]; exact ob
  · rcases old l x e with ⟨h1, h2⟩ | ⟨rfl, rfl⟩
    · rcases old l' x' e' with ⟨h1', h2'⟩ | ⟨rfl, rfl⟩
      · rw [more_old h1, more_old h1'] at he
        exact M.sep l l' x x' h2 h2' hm hm' he
      · rw [more_old h1, more_new] at he
        obtain ⟨ho, h3, _⟩ := (M.obj l x h2).there hm
        rw [he, hp] at h3
        cases h3
    · rcases old l' x' e' with ⟨h1', h2'⟩ | ⟨rfl, rfl⟩
      · rw [more_old h1', more_new] at he
        obtain ⟨ho, h3, _⟩ := (M.obj l' x' h2').there hm'
        rw [← he, hp] at h3
        cases h3
      · rfl
/-- a mutable object written -/
theorem Step.wr {m : Mem} (M : RelM K w ι m H) {l : Nat} {o : MO} {ho : HO} (e : m[l]? = some o) (hm : o.mut = true) : Step ι m.length H ι m.length (upd H (ι l) ho) :=
  ⟨Nat.le_refl _, fun _ _ => rfl, fun a vs h => by
    obtain ⟨h1, h2, h3⟩ := (M.obj l o e).there hm
    rw [upd_ne fun z => ?_]
    · exact h
    · rw [z, h2] at h
      cases h
      exact h3, fun a vs h => by
    obtain ⟨h1, h2, h3, h4⟩ := (M.obj l o e).there' hm
    rw [upd_ne fun z => ?_]
    · exact h
    · rw [z, h2] at h
      exact h4 _ (Option.some.inj h)⟩
theorem RelM.wr {m : Mem} (M : RelM K w ι m H) {l : Nat} {o o' : MO} {ho : HO} (e : m[l]? = some o) (hm : o.mut = true) (hm' : o'.mut = true) (ob : ObjR K w ι m.length (upd H (ι l) ho) (ι l) o') : RelM K w ι (m.set l o') (upd H (ι l) ho) := by
  have hl := lt_of_get e
  have cs : ∀ k x, (m.set l o')[k]? = some x → (k = l ∧ x = o') ∨ (k ≠ l ∧ m[k]? = some x) := fun k x q => by
    by_cases h : l = k
    · subst h
      rw [List.getElem?_set_self hl] at q
      cases q
      exact .inl ⟨rfl, rfl⟩
    · rw [List.getElem?_set_ne h] at q
      exact .inr ⟨fun z => h z.symm, q⟩
  obtain ⟨h1, h2, h3⟩ := (M.obj l o e).there hm
  refine ⟨fun k x q => ?_, fun k k' x x' q0 q0' hx hx' he => ?_⟩
  · rw [List.length_set]
    rcases cs k x q with ⟨rfl, rfl⟩ | ⟨hk, q⟩
    · exact ob
    · by_cases hxm : x.mut = true
      · refine (M.obj k x q).step (Step.wr M e hm) fun ho2 h4 => ?_
        rw [upd_ne fun z => hk (M.sep k l x o q e hxm hm z)]
        exact h4
      · cases x with
        | frl ds =>
          obtain ⟨vs, h4, h5⟩ := M.obj k _ q
          refine ⟨vs, Reps.step (Step.wr M e hm) _ _ h4, ?_⟩
          rcases h5 with ⟨ob2, h5⟩ | h5
          · refine .inl ⟨ob2, ?_⟩
            rw [upd_ne fun z => ?_]
            · exact h5
            · rw [z, h2] at h5; cases h5; exact h3
          · exact .inr h5
        | lst _ => exact absurd rfl hxm
        | dct _ => exact absurd rfl hxm
        | stt _ => exact absurd rfl hxm
  · rcases cs k x q0 with ⟨rfl, rfl⟩ | ⟨hk, q⟩
    · rcases cs k' x' q0' with ⟨rfl, rfl⟩ | ⟨hk', q'⟩
      · rfl
      · exact M.sep _ _ _ _ e q' hm hx' he
    · rcases cs k' x' q0' with ⟨rfl, rfl⟩ | ⟨hk', q'⟩
      · exact M.sep _ _ _ _ q e hx hm he
      · exact M.sep _ _ _ _ q q' hx hx' he
end
end DL
/-! The D layer: readings by denotations. -/
namespace DL
open PySem PySem.Spec L2

/-- an exception's fields -/
def FldR (K : PySem.W.Frag) (ι : Nat → Addr) (n : Nat) (H : Hp) (fs : List (Str × D)) (gs : List (Str × V)) : Prop :=
  Paired (fun (p : Str × D) (q : Str × V) => p.1 = q.1 ∧ Rep K ι n H p.2 q.2) fs gs
section
variable (K : PySem.W.Frag) (w : World) (mg : Str → Option Value) (W : WX)
/-- what is to be shown behind a denotation's answer -/
def fin {α : Type} (σ : L2.St) (ι : Nat → Addr) (n : Nat) (H : Hp) (post : (Nat → Addr) → Mem → Hp → α → Prop) : R α → Prop
  | .ok a m' => ∀ ι' H', Step ι n H ι' m'.length H' → RelM K w ι' m' H' → post ι' m' H' a
  | .exn c fs m' => ∀ ι' H' C dx gs, Step ι n H ι' m'.length H' → RelM K w ι' m' H' → mg c = some (.ref C) → H' dx = some (.xd gs) → FldR K ι' m'.length H' fs gs → W (.ref C) (some dx) σ H'
  | .stk => False
abbrev pV (Q : VK) : (Nat → Addr) → Mem → Hp → D → Prop := fun ι' m' H' d => ∀ v, Rep K ι' m'.length H' d v → Q v H'
abbrev pVs (Q : List V → Hp → Prop) : (Nat → Addr) → Mem → Hp → List D → Prop := fun ι' m' H' ds => ∀ vs, Reps K ι' m'.length H' ds vs → Q vs H'
abbrev pB (Q : Bool → Hp → Prop) : (Nat → Addr) → Mem → Hp → Bool → Prop := fun _ _ H' b => Q b H'
abbrev DF := En → Mem → R D
abbrev DFs := En → Mem → R (List D)
abbrev DFb := En → Mem → R Bool
def rdE (f : DF) : TE := fun σ H Q => ∃ ι ρ m, RelE K ι m.length H ρ σ ∧ RelM K w ι m H ∧ fin K w mg W σ ι m.length H (pV K Q) (f ρ m)
def rdT (f : DFb) : TT := fun σ H Q => ∃ ι ρ m, RelE K ι m.length H ρ σ ∧ RelM K w ι m H ∧ fin K w mg W σ ι m.length H (pB Q) (f ρ m)
def rdA (f : DFs) : TA := fun σ H Q => ∃ ι ρ m, RelE K ι m.length H ρ σ ∧ RelM K w ι m H ∧ fin K w mg W σ ι m.length H (pVs K Q) (f ρ m)
/-- e means f; the same of a test, of arguments -/
def DE (X : Cx) (W : WX) (e : Expr) (f : DF) : Prop := PE X e (rdE X.K X.w X.mg W f)
def DT (X : Cx) (W : WX) (e : Expr) (f : DFb) : Prop := PT X e (rdT X.K X.w X.mg W f)
def DW (X : Cx) (W : WX) (e : Expr) (f : DFb) : Prop := PW X e (rdT X.K X.w X.mg W f)
def DA (X : Cx) (W : WX) (es : List Expr) (f : DFs) : Prop := PA X es (rdA X.K X.w X.mg W f)
end

section
variable {X : Cx} {K : PySem.W.Frag} {w : World} {mg : Str → Option Value} {W : WX} {σ : L2.St} {ι ι' : Nat → Addr} {n n' : Nat} {H H' : Hp} {α β : Type}
theorem fin_step {post : (Nat → Addr) → Mem → Hp → α → Prop} {r : R α} (h : fin K w mg W σ ι n H post r) (S : Step ι n H ι' n' H') : fin K w mg W σ ι' n' H' post r := by
  cases r with
  | ok a m => exact fun ι2 H2 S2 M => h ι2 H2 (S.trans S2) M
  | exn c fs m => exact fun ι2 H2 C dx gs S2 M => h ι2 H2 C dx gs (S.trans S2) M
  | stk => exact h
theorem fin_imp {post post' : (Nat → Addr) → Mem → Hp → α → Prop} {r : R α} (h : fin K w mg W σ ι n H post r)
    (i : ∀ ι' m' H' a, r = .ok a m' → Step ι n H ι' m'.length H' → RelM K w ι' m' H' → post ι' m' H' a → post' ι' m' H' a) : fin K w mg W σ ι n H post' r := by
  cases r with
  | ok a m => exact fun ι2 H2 S2 M => i ι2 m H2 a rfl S2 M (h ι2 H2 S2 M)
  | exn c fs m => exact h
  | stk => exact h
theorem fin_bind {post : (Nat → Addr) → Mem → Hp → β → Prop} {r : R α} {g : α → Mem → R β} (h : fin K w mg W σ ι n H post (r.bind g)) :
    fin K w mg W σ ι n H (fun ι' m' H' a => fin K w mg W σ ι' m'.length H' post (g a m')) r := by
  cases r with
  | ok a m => exact fun ι2 H2 S2 M => fin_step (show fin K w mg W σ ι n H post (g a m) from h) S2
  | exn c fs m => exact h
  | stk => exact h
/-- one part, then the rest -/
theorem fin_then {post : (Nat → Addr) → Mem → Hp → β → Prop} {post' : (Nat → Addr) → Mem → Hp → α → Prop} {r : R α} {g : α → Mem → R β} (h : fin K w mg W σ ι n H post (r.bind g))
    (i : ∀ ι' m' H' a, Step ι n H ι' m'.length H' → RelM K w ι' m' H' → fin K w mg W σ ι' m'.length H' post (g a m') → post' ι' m' H' a) : fin K w mg W σ ι n H post' r :=
  fin_imp (fin_bind h) fun ι' m' H' a _ S M q => i ι' m' H' a S M q
/-- nothing has happened -/
theorem fin_now {post : (Nat → Addr) → Mem → Hp → α → Prop} {a : α} {m : Mem} (h : fin K w mg W σ ι m.length H post (.ok a m)) (M : RelM K w ι m H) : post ι m H a := h ι H (Step.refl _ _ _) M

theorem fin_nowB {Q : Bool → Hp → Prop} {b : Bool} {m : Mem} (h : fin K w mg W σ ι m.length H (pB Q) (.ok b m)) (M : RelM K w ι m H) : Q b H := h ι H (Step.refl _ _ _) M
theorem pe_imp {e : Expr} {t t' : TE} (h : PE X e t) (i : ∀ σ H Q, t' σ H Q → t σ H Q) : PE X e t' := ⟨fun pins s σ H Q I hq => h.run pins s σ H Q I (i σ H Q hq)⟩
theorem pt_imp {e : Expr} {t t' : TT} (h : PT X e t) (i : ∀ σ H Q, t' σ H Q → t σ H Q) : PT X e t' := ⟨fun pins s σ H Q I hq => h.run pins s σ H Q I (i σ H Q hq)⟩
theorem pw_imp {e : Expr} {t t' : TT} (h : PW X e t) (i : ∀ σ H Q, t' σ H Q → t σ H Q) : PW X e t' := ⟨fun wh pins s σ H Q I hq => h.run wh pins s σ H Q I (i σ H Q hq)⟩
theorem pa_imp {es : List Expr} {t t' : TA} (h : PA X es t) (i : ∀ σ H Q, t' σ H Q → t σ H Q) : PA X es t' := ⟨fun pos pins s σ H Q I hq => h.run pos pins s σ H Q I (i σ H Q hq)⟩
theorem ps_imp {st : Stmt} {t t' : TS} (h : PS X st t) (i : ∀ D σ H, t' D σ H → t D σ H) : PS X st t' := ⟨fun pins s σ H D I hq => h.run pins s σ H D I (i D σ H hq)⟩
theorem pss_imp {st : List Stmt} {t t' : TS} (h : PSs X st t) (i : ∀ D σ H, t' D σ H → t D σ H) : PSs X st t' := ⟨fun pins s σ H D I hq => h.run pins s σ H D I (i D σ H hq)⟩

/-! ### names, constants -/
def dVar (i : Nat) : DF := fun ρ m => match ρ[i]? with
  | some (some d) => .ok d m
  | _ => .stk
def dC (d : D) : DF := fun _ m => .ok d m
theorem rd_var {i : Nat} {Q : VK} (h : rdE K w mg W (dVar i) σ H Q) : tVar i σ H Q := by
  obtain ⟨ι, ρ, m, E, M, q⟩ := h
  unfold dVar at q
  cases e : ρ[i]? with
  | none => rw [e] at q; exact q.elim
  | some o =>
    rw [e] at q
    cases o with
    | none => exact q.elim
    | some d =>
      obtain ⟨v, h1, h2⟩ := E.2 i d e
      exact ⟨v, h1, fin_now q M v h2⟩
theorem de_var (i : Nat) {x : Str} {pos : Pos} (hN : X.N[i]? = some x := by rfl) (hv : Vis X.env.scope x := by first | exact Or.inl rfl | exact Or.inr (Or.inl rfl) | exact Or.inr (Or.inr rfl)) (hd : (x == ("__debug__" : Str)) = false := by decide)
    (hcd : (x == ("__classdict__" : Str)) = false := by decide) : DE X W (.Name x pos) (dVar i) := pe_imp (pe_var hN hv hd hcd) fun _ _ _ h => rd_var h
theorem rd_C {d : D} {v : V} (hr : ∀ ι n H, Rep K ι n H d v) {Q : VK} (h : rdE K w mg W (dC d) σ H Q) : tC v σ H Q := by
  obtain ⟨ι, ρ, m, E, M, q⟩ := h
  exact fin_now q M v (hr _ _ _)
theorem de_int {i : Int} {j pos} : DE X W (.Constant (.int i) j pos) (dC (.int i)) := pe_imp pe_int fun _ _ _ h => rd_C (K := X.K) (d := .int i) (v := .int i) (fun _ _ _ => rfl) h
theorem de_bl {b : Bool} {j pos} : DE X W (.Constant (.bool b) j pos) (dC (.bl b)) := pe_imp pe_bl fun _ _ _ h => rd_C (K := X.K) (d := .bl b) (v := .bl b) (fun _ _ _ => rfl) h
theorem de_non {j pos} : DE X W (.Constant .none j pos) (dC .non) := pe_imp pe_non fun _ _ _ h => rd_C (K := X.K) (d := .non) (v := .non) (fun _ _ _ => rfl) h
theorem de_str {x : Str} {j pos} : DE X W (.Constant (.str x) j pos) (dC (.str x)) := pe_imp pe_str fun _ _ _ h => rd_C (K := X.K) (d := .str x) (v := .str x) (fun _ _ _ => rfl) h
/-- a module's constant -/
theorem de_glob {x : Str} {d : D} {v : V} {u : Value} {pos : Pos} (hg : Gl X x) (hm : X.mg x = some u) (r : RelV v u) (hr : ∀ ι n H, Rep X.K ι n H d v) (hd : (x == ("__debug__" : Str)) = false := by decide) : DE X W (.Name x pos) (dC d) :=
  pe_imp (pe_glob hg hm r hd) fun _ _ _ h => rd_C hr h

/-! ### by values -/
section
variable (K w mg W)
abbrev O2 := D → D → Mem → R D
abbrev O1 := D → Mem → R D
abbrev ON := List D → Mem → R D
def DOp (r : R2) (op : O2) : Prop := ∀ (σ : L2.St) (ι : Nat → Addr) (m : Mem) (H : Hp) (x y : V) (d e : D) (Q : VK), RelM K w ι m H → Rep K ι m.length H d x → Rep K ι m.length H e y → fin K w mg W σ ι m.length H (pV K Q) (op d e m) → r x y H Q
def DUn (r : V → Hp → VK → Prop) (op : O1) : Prop := ∀ (σ : L2.St) (ι : Nat → Addr) (m : Mem) (H : Hp) (x : V) (d : D) (Q : VK), RelM K w ι m H → Rep K ι m.length H d x → fin K w mg W σ ι m.length H (pV K Q) (op d m) → r x H Q
def DCa (r : List V → Hp → VK → Prop) (op : ON) : Prop := ∀ (σ : L2.St) (ι : Nat → Addr) (m : Mem) (H : Hp) (xs : List V) (ds : List D) (Q : VK), RelM K w ι m H → Reps K ι m.length H ds xs → fin K w mg W σ ι m.length H (pV K Q) (op ds m) → r xs H Q
end
def dBin (op : O2) (fa fb : DF) : DF := fun ρ m => (fa ρ m).bind fun x m1 => (fb ρ m1).bind fun y m2 => op x y m2
def dUn (op : O1) (fa : DF) : DF := fun ρ m => (fa ρ m).bind fun x m1 => op x m1
def dCall (op : ON) (fs : DFs) : DF := fun ρ m => (fs ρ m).bind fun xs m1 => op xs m1
theorem rd_bin {r : R2} {op : O2} {fa fb : DF} (hd : DOp K w mg W r op) {Q : VK} (h : rdE K w mg W (dBin op fa fb) σ H Q) : tOp r (rdE K w mg W fa) (rdE K w mg W fb) σ H Q := by
  obtain ⟨ι, ρ, m, E, M, q⟩ := h
  refine ⟨ι, ρ, m, E, M, fin_then q fun ι1 m1 H1 d S1 M1 q1 v rv => ?_⟩
  refine ⟨ι1, ρ, m1, E.step S1, M1, fin_then q1 fun ι2 m2 H2 e S2 M2 q2 u ru => ?_⟩
  exact hd σ ι2 m2 H2 v u d e Q M2 (rv.step S2) ru q2
theorem rd_un {r : V → Hp → VK → Prop} {op : O1} {fa : DF} (hd : DUn K w mg W r op) {Q : VK} (h : rdE K w mg W (dUn op fa) σ H Q) : tUn r (rdE K w mg W fa) σ H Q := by
  obtain ⟨ι, ρ, m, E, M, q⟩ := h
  exact ⟨ι, ρ, m, E, M, fin_then q fun ι1 m1 H1 d S1 M1 q1 v rv => hd σ ι1 m1 H1 v d Q M1 rv q1⟩
theorem rd_call {r : List V → Hp → VK → Prop} {op : ON} {fs : DFs} (hd : DCa K w mg W r op) {Q : VK} (h : rdE K w mg W (dCall op fs) σ H Q) : tCB r (rdA K w mg W fs) σ H Q := by
  obtain ⟨ι, ρ, m, E, M, q⟩ := h
  exact ⟨ι, ρ, m, E, M, fin_then q fun ι1 m1 H1 ds S1 M1 q1 vs rv => hd σ ι1 m1 H1 vs ds Q M1 rv q1⟩
variable {a b : Expr} {pos : Pos} {fa fb : DF}
theorem de_op {op : Operator} {r : R2} {o : O2} (ho : OpR X (binaryOp op) r) (hd : DOp X.K X.w X.mg W r o) (ha : DE X W a fa) (hb : DE X W b fb) : DE X W (.BinOp a op b pos) (dBin o fa fb) :=
  pe_imp (pe_op ho ha hb) fun _ _ _ h => rd_bin hd h
theorem de_un {op : UnaryOp} {r : V → Hp → VK → Prop} {o : O1} (ho : UnR X (unaryOp op) r) (hd : DUn X.K X.w X.mg W r o) (ha : DE X W a fa) : DE X W (.UnaryOp op a pos) (dUn o fa) :=
  pe_imp (pe_un ho ha) fun _ _ _ h => rd_un hd h
theorem de_cmp {op : CmpOp} {r : R2} {o : O2} (ho : OpR X (compareOp op) r) (hd : DOp X.K X.w X.mg W r o) (ha : DE X W a fa) (hb : DE X W b fb) (hm : behindInMarks op b = false) : DE X W (.Compare a [op] [b] pos) (dBin o fa fb) :=
  pe_imp (pe_cmpR ho ha hb hm) fun _ _ _ h => rd_bin hd h
theorem de_ix {r : R2} {o : O2} (hr : IxR X r) (hd : DOp X.K X.w X.mg W r o) (ha : DE X W a fa) (hb : DE X W b fb) (hs : PlainIx b) : DE X W (.Subscript a b pos) (dBin o fa fb) :=
  pe_imp (pe_ix hr ha hb hs) fun _ _ _ h => rd_bin hd h

/-! ### arguments, displays -/
def dNil : DFs := fun _ m => .ok [] m
def dCons (f : DF) (g : DFs) : DFs := fun ρ m => (f ρ m).bind fun d m1 => (g ρ m1).bind fun ds m2 => .ok (d :: ds) m2
theorem da_nil : DA X W [] dNil := pa_imp pa_nil fun σ H Q h => by
  obtain ⟨ι, ρ, m, E, M, q⟩ := h
  exact fin_now q M [] Reps.nil
theorem da_cons {e : Expr} {es : List Expr} {f : DF} {g : DFs} (ha : DE X W e f) (hr : DA X W es g) (hs : starEach (e :: es) X.env = (false, eval e X.env) :: starEach es X.env := by rfl) : DA X W (e :: es) (dCons f g) :=
  pa_imp (pa_cons ha hr hs) fun σ H Q h => by
    obtain ⟨ι, ρ, m, E, M, q⟩ := h
    refine ⟨ι, ρ, m, E, M, fin_then q fun ι1 m1 H1 d S1 M1 q1 v rv => ?_⟩
    refine ⟨ι1, ρ, m1, E.step S1, M1, fin_then q1 fun ι2 m2 H2 ds S2 M2 q2 vs rvs => ?_⟩
    exact fin_now q2 M2 (v :: vs) (Reps.cons (rv.step S2) rvs)
def dTup (f : DFs) : DF := fun ρ m => (f ρ m).bind fun ds m1 => if ds.length ≤ sizeLine then .ok (.tup ds) m1 else .stk
def dLst (f : DFs) : DF := fun ρ m => (f ρ m).bind fun ds m1 => if ds.length ≤ sizeLine then .ok (.ref m1.length) (m1 ++ [.lst ds]) else .stk
/-- a tuple is made -/
theorem fin_tup {ds : List D} {vs : List V} {m : Mem} {Q : VK} (M : RelM K w ι m H) (r : Reps K ι m.length H ds vs) (q : fin K w mg W σ ι m.length H (pV K Q) (.ok (.tup ds) m)) : ∀ p, H p = none → Q (.ref p) (upd H p (.tup vs)) := fun p hp =>
  q ι _ (Step.tup hp) (M.fresh hp) _ ⟨p, vs, rfl, .inl upd_same, r.step (Step.tup hp)⟩
/-- a list is made -/
theorem fin_lst {ds : List D} {vs : List V} {m : Mem} {Q : VK} (M : RelM K w ι m H) (r : Reps K ι m.length H ds vs) (q : fin K w mg W σ ι m.length H (pV K Q) (.ok (.ref m.length) (m ++ [.lst ds]))) : ∀ p, H p = none → Q (.ref p) (upd H p (.lst vs)) := fun p hp => by
  have hl : (m ++ [MO.lst ds]).length = m.length + 1 := by simp
  have S : Step ι m.length H (more ι m.length p) (m ++ [MO.lst ds]).length (upd H p (.lst vs)) := by rw [hl]; exact Step.new hp
  refine q _ _ S (M.new hp ⟨vs, upd_same, r.step (Step.new hp)⟩) _ ⟨by rw [hl]; exact Nat.lt_succ_self _, by rw [more_new]⟩
theorem de_tup {es : List Expr} {x1} {f : DFs} (h : DA X W es f) : DE X W (.Tuple es x1 pos) (dTup f) := pe_imp (pe_tup h) fun σ H Q hq => by
  obtain ⟨ι, ρ, m, E, M, q⟩ := hq
  refine ⟨ι, ρ, m, E, M, fin_then q fun ι1 m1 H1 ds S1 M1 q1 vs rv => ?_⟩
  by_cases hz : ds.length ≤ sizeLine
  · rw [if_pos hz] at q1
    exact ⟨by rw [rv.length]; exact hz, fin_tup M1 rv q1⟩
  · rw [if_neg hz] at q1
    exact q1.elim
theorem de_lst {es : List Expr} {f : DFs} (h : DA X W es f) : DE X W (.List es pos) (dLst f) := pe_imp (pe_lst h) fun σ H Q hq => by
  obtain ⟨ι, ρ, m, E, M, q⟩ := hq
  refine ⟨ι, ρ, m, E, M, fin_then q fun ι1 m1 H1 ds S1 M1 q1 vs rv => ?_⟩
  by_cases hz : ds.length ≤ sizeLine
  · rw [if_pos hz] at q1
    exact ⟨by rw [rv.length]; exact hz, fin_lst M1 rv q1⟩
  · rw [if_neg hz] at q1
    exact q1.elim

/-! ### calls of what is built in -/
variable {e : Expr} {es : List Expr} {x : Str} {p : Pos} {id T : String} {r : List V → Hp → VK → Prop} {o : ON} {fs : DFs}
theorem de_callB (hc : CallR X (.builtin id) r) (hd : DCa X.K X.w X.mg W r o) (hg : Gl X x) (hm : X.mg x = none) (hv : bootBuiltins x = some (.builtin id)) (ha : DA X W (e :: es) fs) (hn : x ≠ "__name__" := by decide) (hdb : (x == ("__debug__" : Str)) = false := by decide)
    (he : starEach (e :: es) X.env = (false, eval e X.env) :: starEach es X.env := by rfl) (hpl : (backTo pos (starEach es X.env)).any (·.1) = false := by rfl) : DE X W (.Call (.Name x p) (e :: es) [] pos) (dCall o fs) :=
  pe_imp (pe_callB hc hg hm hv ha hn hdb he hpl) fun _ _ _ h => rd_call hd h
theorem de_callTy (hc : CallR X (.type T) r) (hd : DCa X.K X.w X.mg W r o) (hg : Gl X x) (hm : X.mg x = none) (hv : bootBuiltins x = some (.type T)) (ha : DA X W (e :: es) fs) (hn : x ≠ "__name__" := by decide) (hdb : (x == ("__debug__" : Str)) = false := by decide)
    (he : starEach (e :: es) X.env = (false, eval e X.env) :: starEach es X.env := by rfl) (hpl : (backTo pos (starEach es X.env)).any (·.1) = false := by rfl) : DE X W (.Call (.Name x p) (e :: es) [] pos) (dCall o fs) :=
  pe_imp (pe_callTy hc hg hm hv ha hn hdb he hpl) fun _ _ _ h => rd_call hd h

/-! ### tests -/
def dTest (f : DF) : DFb := fun ρ m => (f ρ m).bind fun d m1 => match d with
  | .bl b => .ok b m1
  | _ => .stk
theorem rd_test {f : DF} {Q : Bool → Hp → Prop} (h : rdT K w mg W (dTest f) σ H Q) : tB (rdE K w mg W f) σ H Q := by
  obtain ⟨ι, ρ, m, E, M, q⟩ := h
  refine ⟨ι, ρ, m, E, M, fin_then q fun ι1 m1 H1 d S1 M1 q1 v rv => ?_⟩
  cases d with
  | bl b => exact ⟨b, rv, fin_nowB (W := W) (σ := σ) (b := b) (m := m1) (Q := Q) q1 M1⟩
  | _ => exact q1.elim
theorem dt_val {f : DF} (h : DE X W e f) (he : ∀ whole, PySem.isTrue e X.env whole = (do let v ← whole; standAt e.pos; holding [v] (truthy v)) := by intro _; rfl) : DT X W e (dTest f) :=
  pt_imp (pt_val h he) fun _ _ _ q => rd_test q
theorem dt_cmp {op : CmpOp} {r : R2} {o : O2} (ho : OpR X (compareOp op) r) (hd : DOp X.K X.w X.mg W r o) (ha : DE X W a fa) (hb : DE X W b fb) (hm : behindInMarks op b = false) : DT X W (.Compare a [op] [b] pos) (dTest (dBin o fa fb)) :=
  pt_imp (pt_cmpR ho ha hb hm) fun σ H Q q => by
    obtain ⟨ι, ρ, m, E, M, q⟩ := rd_test q
    exact rd_bin hd (show rdE X.K X.w X.mg W (dBin o fa fb) σ H _ from ⟨ι, ρ, m, E, M, q⟩)
def dAnd (f g : DFb) : DFb := fun ρ m => (f ρ m).bind fun b m1 => if b = true then g ρ m1 else .ok false m1
def dOr (f g : DFb) : DFb := fun ρ m => (f ρ m).bind fun b m1 => if b = true then .ok true m1 else g ρ m1
def dNot (f : DFb) : DFb := fun ρ m => (f ρ m).bind fun b m1 => .ok (!b) m1
variable {tA tB' : DFb} {rest : List Expr}
theorem DW.dt (h : DW X W e tA) : DT X W e tA := h.pt
theorem dw_and1 (ha : DT X W a tA) : DW X W (.BoolOp .And [a] pos) tA := pw_and1 ha
theorem dw_or1 (ha : DT X W a tA) : DW X W (.BoolOp .Or [a] pos) tA := pw_or1 ha
theorem dw_and (ha : DT X W a tA) (hb : DW X W (.BoolOp .And (b :: rest) pos) tB') : DW X W (.BoolOp .And (a :: b :: rest) pos) (dAnd tA tB') := pw_imp (pw_and ha hb) fun σ H Q h => by
  obtain ⟨ι, ρ, m, E, M, q⟩ := h
  refine ⟨ι, ρ, m, E, M, fin_then q fun ι1 m1 H1 c S1 M1 q1 => ?_⟩
  cases c with
  | true => exact ⟨ι1, ρ, m1, E.step S1, M1, q1⟩
  | false => exact fin_nowB (W := W) (σ := σ) (b := false) (m := m1) (Q := Q) q1 M1
theorem dw_or (ha : DT X W a tA) (hb : DW X W (.BoolOp .Or (b :: rest) pos) tB') : DW X W (.BoolOp .Or (a :: b :: rest) pos) (dOr tA tB') := pw_imp (pw_or ha hb) fun σ H Q h => by
  obtain ⟨ι, ρ, m, E, M, q⟩ := h
  refine ⟨ι, ρ, m, E, M, fin_then q fun ι1 m1 H1 c S1 M1 q1 => ?_⟩
  cases c with
  | true => exact fin_nowB (W := W) (σ := σ) (b := true) (m := m1) (Q := Q) q1 M1
  | false => exact ⟨ι1, ρ, m1, E.step S1, M1, q1⟩
theorem dt_not (ha : DT X W a tA) : DT X W (.UnaryOp .Not a pos) (dNot tA) := pt_imp (pt_not ha) fun σ H Q h => by
  obtain ⟨ι, ρ, m, E, M, q⟩ := h
  exact ⟨ι, ρ, m, E, M, fin_then q fun ι1 m1 H1 c S1 M1 q1 => fin_nowB (W := W) (σ := σ) (b := !c) (m := m1) (Q := Q) q1 M1⟩
/-- .. as values -/
def dAndV (f g : DF) : DF := fun ρ m => (f ρ m).bind fun d m1 => match d with
  | .bl true => g ρ m1
  | .bl false => .ok (.bl false) m1
  | _ => .stk
def dOrV (f g : DF) : DF := fun ρ m => (f ρ m).bind fun d m1 => match d with
  | .bl false => g ρ m1
  | .bl true => .ok (.bl true) m1
  | _ => .stk
def dNotV (f : DF) : DF := fun ρ m => (f ρ m).bind fun d m1 => match d with
  | .bl b => .ok (.bl (!b)) m1
  | _ => .stk
theorem de_one {op} (h : DE X W a fa) : DE X W (.BoolOp op [a] pos) fa := pe_one h
theorem de_and (ha : DE X W a fa) (hb : DE X W (.BoolOp .And (b :: rest) pos) fb) : DE X W (.BoolOp .And (a :: b :: rest) pos) (dAndV fa fb) := pe_imp (pe_and ha hb) fun σ H Q h => by
  obtain ⟨ι, ρ, m, E, M, q⟩ := h
  refine ⟨ι, ρ, m, E, M, fin_then q fun ι1 m1 H1 d S1 M1 q1 v rv => ?_⟩
  cases d with
  | bl c =>
    refine ⟨c, rv, ?_⟩
    cases c with
    | true => exact ⟨ι1, ρ, m1, E.step S1, M1, q1⟩
    | false => exact fin_now q1 M1 _ rfl
  | _ => exact q1.elim
theorem de_or (ha : DE X W a fa) (hb : DE X W (.BoolOp .Or (b :: rest) pos) fb) : DE X W (.BoolOp .Or (a :: b :: rest) pos) (dOrV fa fb) := pe_imp (pe_or ha hb) fun σ H Q h => by
  obtain ⟨ι, ρ, m, E, M, q⟩ := h
  refine ⟨ι, ρ, m, E, M, fin_then q fun ι1 m1 H1 d S1 M1 q1 v rv => ?_⟩
  cases d with
  | bl c =>
    refine ⟨c, rv, ?_⟩
    cases c with
    | false => exact ⟨ι1, ρ, m1, E.step S1, M1, q1⟩
    | true => exact fin_now q1 M1 _ rfl
  | _ => exact q1.elim
theorem de_not (ha : DE X W a fa) : DE X W (.UnaryOp .Not a pos) (dNotV fa) := pe_imp (pe_not ha) fun σ H Q h => by
  obtain ⟨ι, ρ, m, E, M, q⟩ := h
  refine ⟨ι, ρ, m, E, M, fin_then q fun ι1 m1 H1 d S1 M1 q1 v rv => ?_⟩
  cases d with
  | bl c => exact ⟨c, rv, fin_now q1 M1 _ rfl⟩
  | _ => exact q1.elim
def dIf (t : DFb) (f g : DF) : DF := fun ρ m => (t ρ m).bind fun b m1 => if b = true then f ρ m1 else g ρ m1
theorem de_if {c : Expr} (hc : DT X W c tA) (ha : DE X W a fa) (hb : DE X W b fb) : DE X W (.IfExp c a b pos) (dIf tA fa fb) := pe_imp (pe_ifExp hc ha hb) fun σ H Q h => by
  obtain ⟨ι, ρ, m, E, M, q⟩ := h
  refine ⟨ι, ρ, m, E, M, fin_then q fun ι1 m1 H1 c S1 M1 q1 => ?_⟩
  cases c with
  | true => exact ⟨ι1, ρ, m1, E.step S1, M1, q1⟩
  | false => exact ⟨ι1, ρ, m1, E.step S1, M1, q1⟩
end
end DL
/-! The D layer: statements, targets, loops, comprehensions, defs. -/
namespace DL
open PySem PySem.Spec L2

inductive O where
  | nx (ρ : En) (m : Mem)
  | rt (d : D) (m : Mem)
  | bk (ρ : En) (m : Mem)
  | ct (ρ : En) (m : Mem)
  | exn (c : Str) (fs : List (Str × D)) (ρ : En) (m : Mem)
  | stk
abbrev DSt := En → Mem → O
def R.goes {α : Type} (r : R α) (ρ : En) (f : α → Mem → O) : O := match r with
  | .ok a m => f a m
  | .exn c fs m => .exn c fs ρ m
  | .stk => .stk
theorem R.goes_ok {α : Type} (a : α) (m : Mem) (ρ : En) (f : α → Mem → O) : (R.ok a m).goes ρ f = f a m := rfl
theorem R.goes_stk {α : Type} (ρ : En) (f : α → Mem → O) : (R.stk).goes ρ f = .stk := rfl
/-- an answer, else nothing is said -/
def R.only {α : Type} (r : R α) (f : α → Mem → O) : O := match r with
  | .ok a m => f a m
  | _ => .stk
/-- a loop's turn is over -/
def O.turn (o : O) (k : DSt) : O := match o with
  | .nx ρ m => k ρ m
  | .ct ρ m => k ρ m
  | .bk ρ m => .nx ρ m
  | .rt d m => .rt d m
  | .exn c fs ρ m => .exn c fs ρ m
  | .stk => .stk
def O.thn (o : O) (g : DSt) : O := match o with
  | .nx ρ m => g ρ m
  | .rt d m => .rt d m
  | .bk ρ m => .bk ρ m
  | .ct ρ m => .ct ρ m
  | .exn c fs ρ m => .exn c fs ρ m
  | .stk => .stk

section
variable (K : PySem.W.Frag) (w : World) (mg : Str → Option Value) (W : WX)
def finS (ι : Nat → Addr) (n : Nat) (H : Hp) (E : Ends) : O → Prop
  | .nx ρ' m' => ∀ ι' H' σ', Step ι n H ι' m'.length H' → RelM K w ι' m' H' → RelE K ι' m'.length H' ρ' σ' → E.nx σ' H'
  | .bk ρ' m' => ∀ ι' H' σ', Step ι n H ι' m'.length H' → RelM K w ι' m' H' → RelE K ι' m'.length H' ρ' σ' → E.bk σ' H'
  | .ct ρ' m' => ∀ ι' H' σ', Step ι n H ι' m'.length H' → RelM K w ι' m' H' → RelE K ι' m'.length H' ρ' σ' → E.ct σ' H'
  | .rt d m' => ∀ ι' H' v, Step ι n H ι' m'.length H' → RelM K w ι' m' H' → Rep K ι' m'.length H' d v → E.rt v H'
  | .exn c fs ρ' m' => ∀ ι' H' σ' C dx gs, Step ι n H ι' m'.length H' → RelM K w ι' m' H' → RelE K ι' m'.length H' ρ' σ' → mg c = some (.ref C) → H' dx = some (.xd gs) → FldR K ι' m'.length H' fs gs → W (.ref C) (some dx) σ' H'
  | .stk => False
def rdS (g : DSt) : TS := fun E σ H => ∃ ι ρ m, RelE K ι m.length H ρ σ ∧ RelM K w ι m H ∧ finS K w mg W ι m.length H E (g ρ m)
def DS (X : Cx) (W : WX) (st : Stmt) (g : DSt) : Prop := PS X st (rdS X.K X.w X.mg W g)
def DSs (X : Cx) (W : WX) (sts : List Stmt) (g : DSt) : Prop := PSs X sts (rdS X.K X.w X.mg W g)
end

section
variable {X : Cx} {K : PySem.W.Frag} {w : World} {mg : Str → Option Value} {W : WX} {σ : L2.St} {ι ι' : Nat → Addr} {n n' : Nat} {H H' : Hp} {α β : Type} {E E' : Ends}
theorem finS_step {o : O} (h : finS K w mg W ι n H E o) (S : Step ι n H ι' n' H') : finS K w mg W ι' n' H' E o := by
  cases o with
  | nx ρ m => exact fun ι2 H2 σ2 S2 M e => h ι2 H2 σ2 (S.trans S2) M e
  | bk ρ m => exact fun ι2 H2 σ2 S2 M e => h ι2 H2 σ2 (S.trans S2) M e
  | ct ρ m => exact fun ι2 H2 σ2 S2 M e => h ι2 H2 σ2 (S.trans S2) M e
  | rt d m => exact fun ι2 H2 v S2 M r => h ι2 H2 v (S.trans S2) M r
  | exn c fs ρ m => exact fun ι2 H2 σ2 C dx gs S2 M e => h ι2 H2 σ2 C dx gs (S.trans S2) M e
  | stk => exact h
theorem finS_thn {o : O} {g : DSt} (h : finS K w mg W ι n H E (o.thn g)) : finS K w mg W ι n H { E with nx := rdS K w mg W g E } o := by
  cases o with
  | nx ρ m => exact fun ι2 H2 σ2 S2 M e => ⟨ι2, ρ, m, e, M, finS_step h S2⟩
  | bk ρ m => exact h
  | ct ρ m => exact h
  | rt d m => exact h
  | exn c fs ρ m => exact h
  | stk => exact h
/-- an expression's answer, then the statement's -/
theorem fin_goes {r : R α} {ρ : En} {f : α → Mem → O} (e : RelE K ι n H ρ σ) (h : finS K w mg W ι n H E (r.goes ρ f)) : fin K w mg W σ ι n H (fun ι' m' H' a => finS K w mg W ι' m'.length H' E (f a m')) r := by
  cases r with
  | ok a m => exact fun ι2 H2 S2 M => finS_step (show finS K w mg W ι n H E (f a m) from h) S2
  | exn c fs m => exact fun ι2 H2 C dx gs S2 M => h ι2 H2 σ C dx gs S2 M (e.step S2)
  | stk => exact h
theorem fin_goes' {post : (Nat → Addr) → Mem → Hp → α → Prop} {r : R α} {ρ : En} {f : α → Mem → O} (e : RelE K ι n H ρ σ) (h : finS K w mg W ι n H E (r.goes ρ f))
    (i : ∀ ι' m' H' a, Step ι n H ι' m'.length H' → RelM K w ι' m' H' → RelE K ι' m'.length H' ρ σ → finS K w mg W ι' m'.length H' E (f a m') → post ι' m' H' a) : fin K w mg W σ ι n H post r :=
  fin_imp (fin_goes e h) fun ι' m' H' a _ S M q => i ι' m' H' a S M (e.step S) q
theorem finS_nx {ρ : En} {m : Mem} (h : finS K w mg W ι m.length H E (.nx ρ m)) (M : RelM K w ι m H) {σ' : L2.St} (e : RelE K ι m.length H ρ σ') : E.nx σ' H := h ι H σ' (Step.refl _ _ _) M e

/-! ### blocks -/
variable {st : Stmt} {rest : List Stmt} {g g' : DSt} {e : Expr} {f : DF} {pos : Pos}
def dNext : DSt := fun ρ m => .nx ρ m
def dSeq (g h : DSt) : DSt := fun ρ m => (g ρ m).thn h
theorem dss_nil : DSs X W [] dNext := pss_imp pss_nil fun E σ H h => by
  obtain ⟨ι, ρ, m, e, M, q⟩ := h
  exact finS_nx q M e
theorem dss_cons (h1 : DS X W st g) (h2 : DSs X W rest g') : DSs X W (st :: rest) (dSeq g g') := pss_imp (pss_cons h1 h2) fun E σ H h => by
  obtain ⟨ι, ρ, m, e, M, q⟩ := h
  exact ⟨ι, ρ, m, e, M, finS_thn q⟩
theorem dss_one (h1 : DS X W st g) : DSs X W [st] g := pss_one h1
def dBreak : DSt := fun ρ m => .bk ρ m
def dCont : DSt := fun ρ m => .ct ρ m
theorem ds_pass : DS X W (.Pass pos) dNext := ps_imp ps_pass fun E σ H h => by
  obtain ⟨ι, ρ, m, e, M, q⟩ := h
  exact finS_nx q M e
theorem ds_break : DS X W (.Break pos) dBreak := ps_imp ps_break fun E σ H h => by
  obtain ⟨ι, ρ, m, e, M, q⟩ := h
  exact q ι H σ (Step.refl _ _ _) M e
theorem ds_continue : DS X W (.Continue pos) dCont := ps_imp ps_continue fun E σ H h => by
  obtain ⟨ι, ρ, m, e, M, q⟩ := h
  exact q ι H σ (Step.refl _ _ _) M e
theorem ds_doc {x j pos pos'} : DS X W (.Expr (.Constant (.str x) j pos) pos') dNext := ps_imp ps_doc fun E σ H h => by
  obtain ⟨ι, ρ, m, e, M, q⟩ := h
  exact finS_nx q M e
def dDrop (f : DF) : DSt := fun ρ m => (f ρ m).goes ρ fun _ m1 => .nx ρ m1
theorem ds_expr (he : DE X W e f) (hs : swapsWith e none pos.line X.env = pure false := by rfl) : DS X W (.Expr e pos) (dDrop f) := ps_imp (ps_expr he hs) fun E σ H h => by
  obtain ⟨ι, ρ, m, e, M, q⟩ := h
  exact ⟨ι, ρ, m, e, M, fin_goes' e q fun ι1 m1 H1 d S1 M1 e1 q1 v rv => finS_nx q1 M1 e1⟩
def dRet (f : DF) : DSt := fun ρ m => (f ρ m).goes ρ fun d m1 => .rt d m1
theorem ds_ret (he : DE X W e f) : DS X W (.Return (some e) pos) (dRet f) := ps_imp (ps_ret he) fun E σ H h => by
  obtain ⟨ι, ρ, m, e, M, q⟩ := h
  exact ⟨ι, ρ, m, e, M, fin_goes' e q fun ι1 m1 H1 d S1 M1 e1 q1 v rv => q1 ι1 H1 v (Step.refl _ _ _) M1 rv⟩
def dRetN : DSt := fun _ m => .rt .non m
theorem ds_retN : DS X W (.Return none pos) dRetN := ps_imp ps_retN fun E σ H h => by
  obtain ⟨ι, ρ, m, e, M, q⟩ := h
  exact q ι H _ (Step.refl _ _ _) M rfl
def dIfS (t : DFb) (g h : DSt) : DSt := fun ρ m => (t ρ m).goes ρ fun b m1 => if b = true then g ρ m1 else h ρ m1
theorem ds_if {c : Expr} {a b : List Stmt} {t : DFb} (hc : DT X W c t) (ha : DSs X W a g) (hb : DSs X W b g') : DS X W (.If c a b pos) (dIfS t g g') := ps_imp (ps_if hc ha hb) fun E σ H h => by
  obtain ⟨ι, ρ, m, e, M, q⟩ := h
  refine ⟨ι, ρ, m, e, M, fin_goes' e q fun ι1 m1 H1 c S1 M1 e1 q1 => ?_⟩
  cases c with
  | true => exact ⟨ι1, ρ, m1, e1, M1, q1⟩
  | false => exact ⟨ι1, ρ, m1, e1, M1, q1⟩
/-- what is never come to -/
def dStk : DSt := fun _ _ => .stk
theorem ds_never : DS X W st dStk := ps_imp ps_never fun E σ H h => by
  obtain ⟨ι, ρ, m, e, M, q⟩ := h
  exact q.elim

/-! ### targets -/
/-- g's wish, by γ; sl: the slots that it stores -/
def GOk (K : PySem.W.Frag) (w : World) (mg : Str → Option Value) (W : WX) (g : TG) (γ : D → En → Mem → R En) (sl : List Nat) : Prop :=
  ∀ (σ : L2.St) (ι : Nat → Addr) (ρ : En) (m : Mem) (H : Hp) (d : D) (v : V) (Q : L2.St → Hp → Prop), RelE K ι m.length H ρ σ → RelM K w ι m H → Rep K ι m.length H d v →
    fin K w mg W σ ι m.length H (fun ι' m' H' ρ' => ∀ σ', RelE K ι' m'.length H' ρ' σ' → (∀ js : List Nat, (∀ i ∈ sl, i ∈ js) → wipe σ' js = wipe σ js) → Q σ' H') (γ d ρ m) → g v σ H Q
theorem wipe_set {i : Nat} {x : Option V} : ∀ {js : List Nat} (σ : L2.St), i ∈ js → wipe (σ.set i x) js = wipe σ js
  | [], _, h => by cases h
  | j :: js, σ, h => by
    show (wipe (σ.set i x) js).set j none = (wipe σ js).set j none
    by_cases hj : i ∈ js
    · rw [wipe_set σ hj]
    · have e : i = j := (List.mem_cons.mp h).resolve_right hj
      subst e
      have key : ∀ (ks : List Nat) (τ : L2.St), i ∉ ks → wipe (τ.set i x) ks = (wipe τ ks).set i x := by
        intro ks
        induction ks with
        | nil => intro τ _; rfl
        | cons k ks ih =>
          intro τ hk
          have h1 : i ≠ k := fun z => hk (by rw [z]; exact List.mem_cons_self)
          show (wipe (τ.set i x) ks).set k none = ((wipe τ ks).set k none).set i x
          rw [ih τ (fun z => hk (List.mem_cons_of_mem _ z)), List.set_comm _ _ h1]
      rw [key js σ hj, List.set_set]
def γName (i : Nat) : D → En → Mem → R En := fun d ρ m => .ok (ρ.set i (some d)) m
theorem gok_name (i : Nat) : GOk K w mg W (gName i) (γName i) [i] := fun σ ι ρ m H d v Q e M r q =>
  fin_now q M (σ.set i (some v)) (e.set r i) fun js hj => wipe_set σ (hj i (by simp))
abbrev γs := List D → En → Mem → R En
def GsOk (K : PySem.W.Frag) (w : World) (mg : Str → Option Value) (W : WX) (g : TGs) (γ : γs) (sl : List Nat) : Prop :=
  ∀ (σ : L2.St) (ι : Nat → Addr) (ρ : En) (m : Mem) (H : Hp) (ds : List D) (vs : List V) (Q : L2.St → Hp → Prop), RelE K ι m.length H ρ σ → RelM K w ι m H → Reps K ι m.length H ds vs →
    fin K w mg W σ ι m.length H (fun ι' m' H' ρ' => ∀ σ', RelE K ι' m'.length H' ρ' σ' → (∀ js : List Nat, (∀ i ∈ sl, i ∈ js) → wipe σ' js = wipe σ js) → Q σ' H') (γ ds ρ m) → g vs σ H Q
def γNil : γs := fun ds ρ m => match ds with
  | [] => .ok ρ m
  | _ :: _ => .stk
def γCons (γ : D → En → Mem → R En) (δ : γs) : γs := fun ds ρ m => match ds with
  | [] => .stk
  | d :: r => (γ d ρ m).bind fun ρ1 m1 => δ r ρ1 m1
theorem gok_nil : GsOk K w mg W gNil γNil [] := fun σ ι ρ m H ds vs Q e M r q => by
  cases ds with
  | nil =>
    obtain rfl : vs = [] := r
    exact ⟨rfl, fin_now q M σ e fun _ _ => rfl⟩
  | cons d ds => exact q.elim
theorem gok_cons {g : TG} {gs : TGs} {γ : D → En → Mem → R En} {δ : γs} {sl sl' : List Nat} (h : GOk K w mg (fun _ _ _ _ => False) g γ sl) (hs : GsOk K w mg (fun _ _ _ _ => False) gs δ sl') : GsOk K w mg (fun _ _ _ _ => False) (gCons g gs) (γCons γ δ) (sl ++ sl') :=
  fun σ ι ρ m H ds vs Q e M r q => by
  cases ds with
  | nil => exact q.elim
  | cons d ds =>
    obtain ⟨v, vr, rfl, r1, r2⟩ := r
    refine ⟨v, vr, rfl, h σ ι ρ m H d v _ e M r1 ?_⟩
    refine fin_then (β := En) q fun ι1 m1 H1 ρ1 S1 M1 q1 σ1 e1 w1 => ?_
    refine hs σ1 ι1 ρ1 m1 H1 ds vr Q e1 M1 (Reps.step S1 _ _ r2) ?_
    have q2 : fin K w mg (fun _ _ _ _ => False) σ1 ι1 m1.length H1 (fun ι' m' H' ρ' => ∀ σ', RelE K ι' m'.length H' ρ' σ' → (∀ js : List Nat, (∀ i ∈ sl ++ sl', i ∈ js) → wipe σ' js = wipe σ js) → Q σ' H') (δ ds ρ1 m1) := by
      cases hr : δ ds ρ1 m1 with
      | ok a m2 => rw [hr] at q1; exact q1
      | exn c fs m2 => rw [hr] at q1; exact q1
      | stk => rw [hr] at q1; exact q1
    exact fin_imp q2 fun ι2 m2 H2 ρ2 _ S2 M2 q3 σ2 e2 w2 => q3 σ2 e2 fun js hj => (w2 js fun i hi => hj i (List.mem_append_right _ hi)).trans (w1 js fun i hi => hj i (List.mem_append_left _ hi))
def γTup (n : Nat) (δ : γs) : D → En → Mem → R En := fun d ρ m => match d with
  | .tup ds => if ds.length = n then δ ds ρ m else .stk
  | _ => .stk
theorem gok_tup {gs : TGs} {δ : γs} {sl : List Nat} (n : Nat) (hs : GsOk K w mg W gs δ sl) : GOk K w mg W (gTup K n gs) (γTup n δ) sl := fun σ ι ρ m H d v Q e M r q => by
  cases d with
  | tup ds =>
    obtain ⟨a, vs, rfl, ht, rs⟩ := r
    by_cases hn : ds.length = n
    · have q' : fin K w mg W σ ι m.length H _ (if ds.length = n then δ ds ρ m else .stk) := q
      rw [if_pos hn] at q'
      exact ⟨a, vs, rfl, ht.sq, by rw [rs.length]; exact hn, hs σ ι ρ m H ds vs Q e M rs q'⟩
    · have q' : fin K w mg W σ ι m.length H _ (if ds.length = n then δ ds ρ m else .stk) := q
      rw [if_neg hn] at q'
      exact q'.elim
  | _ => exact q.elim

/-! ### assignments -/
def dSet (i : Nat) (f : DF) : DSt := fun ρ m => (f ρ m).goes ρ fun d m1 => .nx (ρ.set i (some d)) m1
theorem ds_set {i : Nat} {x : Str} {pos' : Pos} (hN : X.N.Nodup) (hi : X.N[i]? = some x) (hx : Loc X.env.scope x) (he : DE X W e f) (hs : swapsWith e (some (.Name x pos')) pos.line X.env = pure false := by rfl) (hf : X.fn x = true ∨ X.env.scope.names.lookup x = some .local := by first | exact .inl rfl | exact .inr rfl | assumption) :
    DS X W (.Assign [.Name x pos'] e pos) (dSet i f) := ps_imp (ps_set hN hi hx he hs hf) fun E σ H h => by
  obtain ⟨ι, ρ, m, e, M, q⟩ := h
  exact ⟨ι, ρ, m, e, M, fin_goes' e q fun ι1 m1 H1 d S1 M1 e1 q1 v rv => finS_nx q1 M1 (e1.set rv i)⟩
abbrev W0 : WX := fun _ _ _ _ => False
/-- target = e -/
def dAsg (f : DF) (γ : D → En → Mem → R En) : DSt := fun ρ m => (f ρ m).goes ρ fun d m1 => (γ d ρ m1).only fun ρ1 m2 => .nx ρ1 m2
theorem fin_only {post : (Nat → Addr) → Mem → Hp → α → Prop} {r : R α} {E : Ends} {k : α → Mem → O} (h : finS K w mg W ι n H E (r.only k))
    (i : ∀ ι' m' H' a, Step ι n H ι' m'.length H' → RelM K w ι' m' H' → finS K w mg W ι' m'.length H' E (k a m') → post ι' m' H' a) : fin K w mg W0 σ ι n H post r := by
  cases r with
  | ok a m => exact fun ι2 H2 S2 M => i ι2 m H2 a S2 M (finS_step h S2)
  | exn c fs m => exact h.elim
  | stk => exact h.elim
theorem ds_asg {tg : Expr} {t : TG} {γ : D → En → Mem → R En} {sl : List Nat} (he : DE X W e f) (hg : PG X tg t) (gk : GOk X.K X.w X.mg W0 t γ sl) (hs : swapsWithSole [tg] e pos.line X.env = pure false := by rfl) (hw : swappedStores [tg] e X.env = pure none := by rfl)
    (h1 : (assignEach [tg] X.env).map (·.2) = [assign tg X.env] := by rfl) : DS X W (.Assign [tg] e pos) (dAsg f γ) := ps_imp (ps_asg he hg hs hw h1) fun E σ H h => by
  obtain ⟨ι, ρ, m, e, M, q⟩ := h
  refine ⟨ι, ρ, m, e, M, fin_goes' e q fun ι1 m1 H1 d S1 M1 e1 q1 v rv => ?_⟩
  refine gk σ ι1 ρ m1 H1 d v _ e1 M1 rv (fin_only q1 fun ι2 m2 H2 ρ2 S2 M2 q2 σ2 e2 _ => finS_nx q2 M2 e2)
/-- a, b = x, y -/
def dPar (i j : Nat) (fs : DFs) : DSt := fun ρ m => (fs ρ m).goes ρ fun ds m1 => match ds with
  | [d, e] => .nx ((ρ.set i (some d)).set j (some e)) m1
  | _ => .stk
theorem ds_par {i j : Nat} {x y : Str} {a b : Expr} {fs : DFs} {px py pt : Pos} {kt k2 pt2} (hc : X.calm = true) (hN : X.N.Nodup) (hi : X.N[i]? = some x) (hj : X.N[j]? = some y) (hij : i ≠ j)
    (hx : X.env.scope.names.lookup x = some .local) (hy : X.env.scope.names.lookup y = some .local) (ha : DA X W [a, b] fs)
    (hw : swappedStores [.Tuple [.Name x px, .Name y py] kt pt] (.Tuple [a, b] k2 pt2) X.env = pure (some [x, y]))
    (hs : swapsWithSole [.Tuple [.Name x px, .Name y py] kt pt] (.Tuple [a, b] k2 pt2) pos.line X.env = pure false := by rfl) :
    DS X W (.Assign [.Tuple [.Name x px, .Name y py] kt pt] (.Tuple [a, b] k2 pt2) pos) (dPar i j fs) := ps_imp (ps_par hc hN hi hj hij hx hy ha hw hs) fun E σ H h => by
  obtain ⟨ι, ρ, m, e, M, q⟩ := h
  refine ⟨ι, ρ, m, e, M, fin_goes' e q fun ι1 m1 H1 ds S1 M1 e1 q1 vs rv => ?_⟩
  match ds, rv, q1 with
  | [], _, q1 => exact q1.elim
  | [_], _, q1 => exact q1.elim
  | _ :: _ :: _ :: _, _, q1 => exact q1.elim
  | [d, e], rv, q1 =>
    obtain ⟨v, r1, rfl, h1, v2, r2, rfl, h2, h3⟩ := rv
    obtain rfl : r2 = [] := h3
    exact ⟨v, v2, rfl, finS_nx q1 M1 ((e1.set h1 i).set h2 j)⟩
/-- o[i] = e -/
abbrev O3 := D → D → D → Mem → R Unit
def DSetR (K : PySem.W.Frag) (w : World) (mg : Str → Option Value) (W : WX) (t : TSet) (op : O3) : Prop :=
  ∀ (σ : L2.St) (ι : Nat → Addr) (m : Mem) (H : Hp) (o i v : V) (do_ di dv : D) (Q : Hp → Prop), RelM K w ι m H → Rep K ι m.length H do_ o → Rep K ι m.length H di i → Rep K ι m.length H dv v → fin K w mg W σ ι m.length H (fun _ _ H' _ => Q H') (op do_ di dv m) → t o i v H Q
def dSub (f fo fi : DF) (op : O3) : DSt := fun ρ m => (f ρ m).goes ρ fun d m1 => (fo ρ m1).goes ρ fun o m2 => (fi ρ m2).goes ρ fun i m3 => (op o i d m3).goes ρ fun _ m4 => .nx ρ m4
theorem ds_sub {o i : Expr} {tpos : Pos} {fo fi : DF} {t : TSet} {op : O3} (he : DE X W e f) (ho : DE X W o fo) (hi : DE X W i fi) (hs : PSet X t) (hd : DSetR X.K X.w X.mg W t op)
    (ha : ∀ v, assign (.Subscript o i tpos) X.env v = (do
      let ov ← holding [v] (eval o X.env)
      let iv ← holding [v, ov] (eval i X.env)
      standAt tpos
      holding [v, ov, iv] (setItem ov iv v)
      release [v, ov, iv] []) := by intro _; rfl)
    (h1 : swapsWithSole [.Subscript o i tpos] e pos.line X.env = pure false := by rfl) (h2 : swappedStores [.Subscript o i tpos] e X.env = pure none := by rfl)
    (h3 : (assignEach [.Subscript o i tpos] X.env).map (·.2) = [assign (.Subscript o i tpos) X.env] := by rfl) : DS X W (.Assign [.Subscript o i tpos] e pos) (dSub f fo fi op) := ps_imp (ps_asg he (pg_sub ho hi hs ha) h1 h2 h3) fun E σ H h => by
  obtain ⟨ι, ρ, m, e, M, q⟩ := h
  refine ⟨ι, ρ, m, e, M, fin_goes' e q fun ι1 m1 H1 d S1 M1 e1 q1 v rv => ?_⟩
  refine ⟨ι1, ρ, m1, e1, M1, fin_goes' e1 q1 fun ι2 m2 H2 dO S2 M2 e2 q2 ov ro => ?_⟩
  refine ⟨ι2, ρ, m2, e2, M2, fin_goes' e2 q2 fun ι3 m3 H3 dI S3 M3 e3 q3 iv ri => ?_⟩
  refine hd σ ι3 m3 H3 ov iv v dO dI d _ M3 (ro.step S3) ri (rv.step (S2.trans S3)) ?_
  exact fin_goes' e3 q3 fun ι4 m4 H4 _ S4 M4 e4 q4 => finS_nx q4 M4 e4
/-- x op= e -/
def DIp (K : PySem.W.Frag) (w : World) (mg : Str → Option Value) (W : WX) (t : TIp) (op : O2) : Prop :=
  ∀ (σ : L2.St) (ι : Nat → Addr) (m : Mem) (H : Hp) (x y : V) (d e : D) (Q : VK), RelM K w ι m H → Rep K ι m.length H d x → Rep K ι m.length H e y → fin K w mg W σ ι m.length H (pV K Q) (op d e m) → t x y H Q
def dAug (i : Nat) (f : DF) (op : O2) : DSt := fun ρ m => match ρ[i]? with
  | some (some d) => (f ρ m).goes ρ fun e m1 => (op d e m1).goes ρ fun r m2 => .nx (ρ.set i (some r)) m2
  | _ => .stk
theorem ds_aug {i : Nat} {x : Str} {op : Operator} {t : TIp} {o : O2} {pos' : Pos} (hN : X.N.Nodup) (hi : X.N[i]? = some x) (hx : Loc X.env.scope x) (he : DE X W e f) (ho : PIp X op t) (hd : DIp X.K X.w X.mg W t o)
    (hf : X.fn x = true ∨ X.env.scope.names.lookup x = some .local := by first | exact .inl rfl | exact .inr rfl | assumption) : DS X W (.AugAssign (.Name x pos') op e pos) (dAug i f o) := ps_imp (ps_aug hN hi hx he ho hf) fun E σ H h => by
  obtain ⟨ι, ρ, m, e, M, q⟩ := h
  unfold dAug at q
  cases h1 : ρ[i]? with
  | none => rw [h1] at q; exact q.elim
  | some oo =>
    cases oo with
    | none => rw [h1] at q; exact q.elim
    | some d =>
      rw [h1] at q
      obtain ⟨v, h2, rv⟩ := e.2 i d h1
      refine ⟨v, h2, ι, ρ, m, e, M, fin_goes' e q fun ι1 m1 H1 d2 S1 M1 e1 q1 u ru => ?_⟩
      refine hd σ ι1 m1 H1 v u d d2 _ M1 (rv.step S1) ru (fin_goes' e1 q1 fun ι2 m2 H2 d3 S2 M2 e2 q2 z rz => ?_)
      exact finS_nx q2 M2 (e2.set rz i)

/-! ### while -/
def whileF (c : DFb) (b : DSt) : Nat → DSt
  | 0, _, _ => .stk
  | k + 1, ρ, m => (c ρ m).goes ρ fun t m1 => if t = true then (b ρ m1).turn (whileF c b k) else .nx ρ m1
def FUEL : Nat := 1000000000
def dWhile (c : DFb) (b : DSt) : DSt := whileF c b FUEL
theorem ds_while {c : Expr} {body : List Stmt} {t : DFb} (hp : PassesOwn (model X.prog X.w) X.A X.env X.xe) (hc : DT X W c t) (hb : DSs X W body g) : DS X W (.While c body [] pos) (dWhile t g) := ps_imp (ps_while hp hc hb) fun E σ H h => by
  obtain ⟨ι, ρ, m, e, M, q⟩ := h
  refine ⟨fun k σ H => ∃ ι ρ m, RelE X.K ι m.length H ρ σ ∧ RelM X.K X.w ι m H ∧ finS X.K X.w X.mg W ι m.length H E (whileF t g k ρ m), ⟨FUEL, ι, ρ, m, e, M, q⟩, ?_⟩
  rintro k σ H ⟨ι, ρ, m, e, M, q⟩
  cases k with
  | zero => exact q.elim
  | succ k =>
    refine ⟨ι, ρ, m, e, M, fin_goes' e q fun ι1 m1 H1 b S1 M1 e1 q1 => ?_⟩
    cases b with
    | false => exact finS_nx (show finS X.K X.w X.mg W ι1 m1.length H1 E (.nx ρ m1) from q1) M1 e1
    | true =>
      refine ⟨fun σ' H' => ∃ ι ρ m, RelE X.K ι m.length H' ρ σ' ∧ RelM X.K X.w ι m H' ∧ finS X.K X.w X.mg W ι m.length H' E (whileF t g k ρ m), fun σ' H' hn => ⟨k, Nat.lt_succ_self k, hn⟩, ι1, ρ, m1, e1, M1, ?_⟩
      have q2 : finS X.K X.w X.mg W ι1 m1.length H1 E ((g ρ m1).turn (whileF t g k)) := q1
      cases hg : g ρ m1 with
      | nx ρ2 m2 => rw [hg] at q2; exact fun ι3 H3 σ3 S3 M3 e3 => ⟨ι3, ρ2, m2, e3, M3, finS_step q2 S3⟩
      | ct ρ2 m2 => rw [hg] at q2; exact fun ι3 H3 σ3 S3 M3 e3 => ⟨ι3, ρ2, m2, e3, M3, finS_step q2 S3⟩
      | bk ρ2 m2 => rw [hg] at q2; exact q2
      | rt d m2 => rw [hg] at q2; exact q2
      | exn c fs ρ2 m2 => rw [hg] at q2; exact q2
      | stk => rw [hg] at q2; exact q2

/-! ### what is walked -/
/-- the items, and what must stay as it is meanwhile -/
structure Src where
  items : List D
  lk : Option (Nat × MO)
def Src.ok (s : Src) (m : Mem) : Bool := match s.lk with
  | none => true
  | some (l, o) => decide (m[l]? = some o)
/-- an iterator of these items -/
structure ItR (K : PySem.W.Frag) (w : World) (ι : Nat → Addr) (n : Nat) (H : Hp) (J : It) (s : Src) : Prop where
  go : ∀ ι1 m1 H1 i d, Step ι n H ι1 m1.length H1 → RelM K w ι1 m1 H1 → s.ok m1 = true → s.items[i]? = some d → J.go i H1
  yld : ∀ ι1 m1 H1 i d x H', Step ι n H ι1 m1.length H1 → RelM K w ι1 m1 H1 → s.ok m1 = true → s.items[i]? = some d → J.yld i H1 x H' →
    Step ι1 m1.length H1 ι1 m1.length H' ∧ RelM K w ι1 m1 H' ∧ Rep K ι1 m1.length H' d x
  stop : ∀ ι1 m1 H1, Step ι n H ι1 m1.length H1 → RelM K w ι1 m1 H1 → s.ok m1 = true → J.stop s.items.length H1
abbrev DFi := En → Mem → R Src
def rdI (K : PySem.W.Frag) (w : World) (mg : Str → Option Value) (W : WX) (φ : DFi) : TI := fun σ H Rr => ∃ ι ρ m, RelE K ι m.length H ρ σ ∧ RelM K w ι m H ∧
  fin K w mg W σ ι m.length H (fun ι' m' H' s => ∀ J, ItR K w ι' m'.length H' J s → Rr J H') (φ ρ m)
def DI (X : Cx) (W : WX) (tg iter : Expr) (φ : DFi) : Prop := PI X tg iter (rdI X.K X.w X.mg W φ)
theorem pi_imp {tg iter : Expr} {t t' : TI} (h : PI X tg iter t) (i : ∀ σ H Q, t' σ H Q → t σ H Q) : PI X tg iter t' := ⟨fun pins s σ H Q I hq => h.run pins s σ H Q I (i σ H Q hq)⟩
def forF (s : Src) (γ : D → En → Mem → R En) (b : DSt) : List D → DSt
  | [], ρ, m => if s.ok m = true then .nx ρ m else .stk
  | d :: ds, ρ, m => if s.ok m = true then (γ d ρ m).only fun ρ1 m1 => (b ρ1 m1).turn (forF s γ b ds) else .stk
def dFor (φ : DFi) (γ : D → En → Mem → R En) (b : DSt) : DSt := fun ρ m => (φ ρ m).goes ρ fun s m1 => forF s γ b s.items ρ m1
theorem ds_for {tg iter : Expr} {body : List Stmt} {t : TG} {φ : DFi} {γ : D → En → Mem → R En} {sl : List Nat} (hp : PassesOwn (model X.prog X.w) X.A X.env X.xe) (hc : X.calm = true) (hi : DI X W tg iter φ) (hg : PG X tg t) (gk : GOk X.K X.w X.mg W0 t γ sl) (hb : DSs X W body g)
    (hs : ∀ x, foldedSetIterable iter X.env x = pure x := by intro _; rfl) : DS X W (.For tg iter body [] pos) (dFor φ γ g) := ps_imp (ps_for hp hc hi hg hb hs) fun E σ H h => by
  obtain ⟨ι, ρ, m, e, M, q⟩ := h
  refine ⟨ι, ρ, m, e, M, fin_goes' e q fun ι0 m0 H0 s S0 M0 e0 q0 J hJ => ?_⟩
  refine ⟨fun i k σ H => ∃ ι1 ρ1 m1, Step ι0 m0.length H0 ι1 m1.length H ∧ RelE X.K ι1 m1.length H ρ1 σ ∧ RelM X.K X.w ι1 m1 H ∧ i + k = s.items.length ∧ finS X.K X.w X.mg W ι1 m1.length H E (forF s γ g (s.items.drop i) ρ1 m1),
    ⟨s.items.length, ι0, ρ, m0, Step.refl _ _ _, e0, M0, by omega, q0⟩, ?_⟩
  rintro i k σ1 H1 ⟨ι1, ρ1, m1, S1, e1, M1, hk, q1⟩
  by_cases hi : i < s.items.length
  · rw [List.drop_eq_getElem_cons hi] at q1
    have hd : s.items[i]? = some s.items[i] := List.getElem?_eq_getElem hi
    generalize s.items[i] = d at q1 hd
    cases hok : s.ok m1 with
    | false =>
      unfold forF at q1
      rw [hok] at q1
      exact q1.elim
    | true =>
      unfold forF at q1
      rw [hok, if_pos rfl] at q1
      refine .inr ⟨hJ.go ι1 m1 H1 i d S1 M1 hok hd, fun σ' H' => ∃ ι2 ρ2 m2, Step ι0 m0.length H0 ι2 m2.length H' ∧ RelE X.K ι2 m2.length H' ρ2 σ' ∧ RelM X.K X.w ι2 m2 H' ∧ finS X.K X.w X.mg W ι2 m2.length H' E (forF s γ g (s.items.drop (i + 1)) ρ2 m2),
        fun σ' H' ⟨ι2, ρ2, m2, S2, e2, M2, q2⟩ => ⟨k - 1, by omega, ι2, ρ2, m2, S2, e2, M2, by omega, q2⟩, fun x H' y => ?_⟩
      obtain ⟨S2, M2, r2⟩ := hJ.yld ι1 m1 H1 i d x H' S1 M1 hok hd y
      have q2 := finS_step q1 S2
      refine gk σ1 ι1 ρ1 m1 H' d x _ (e1.step S2) M2 r2 (fin_only (k := fun ρ1 m1 => (g ρ1 m1).turn (forF s γ g (s.items.drop (i + 1)))) q2 fun ι3 m3 H3 ρ3 S3 M3 q3 σ3 e3 _ => ?_)
      have S4 := (S1.trans S2).trans S3
      refine ⟨ι3, ρ3, m3, e3, M3, ?_⟩
      cases hg : g ρ3 m3 with
      | nx ρ2 m2 => rw [hg] at q3; exact fun ι5 H5 σ5 S5 M5 e5 => ⟨ι5, ρ2, m2, S4.trans S5, e5, M5, finS_step q3 S5⟩
      | ct ρ2 m2 => rw [hg] at q3; exact fun ι5 H5 σ5 S5 M5 e5 => ⟨ι5, ρ2, m2, S4.trans S5, e5, M5, finS_step q3 S5⟩
      | bk ρ2 m2 => rw [hg] at q3; exact q3
      | rt d m2 => rw [hg] at q3; exact q3
      | exn c fs ρ2 m2 => rw [hg] at q3; exact q3
      | stk => rw [hg] at q3; exact q3
  · have hi2 : i = s.items.length := by omega
    subst hi2
    rw [List.drop_length] at q1
    cases hok : s.ok m1 with
    | false =>
      unfold forF at q1
      rw [hok] at q1
      exact q1.elim
    | true =>
      unfold forF at q1
      rw [hok, if_pos rfl] at q1
      exact .inl ⟨hJ.stop ι1 m1 H1 S1 M1 hok, finS_nx q1 M1 e1⟩
end
end DL
/-! The D layer: comprehensions, calls, defs. -/
namespace DL
open PySem PySem.Spec L2

/-- an answer, nothing raised -/
def R.bnd {α β : Type} (r : R α) (f : α → Mem → R β) : R β := match r with
  | .ok a m => f a m
  | _ => .stk
theorem R.bnd_ok {α β : Type} (a : α) (m : Mem) (f : α → Mem → R β) : (R.ok a m).bnd f = f a m := rfl
def wipeD (ρ : En) : List Nat → En
  | [] => ρ
  | v :: vs => (wipeD ρ vs).set v none
def lcF (l : Nat) (s : Src) (γ : D → En → Mem → R En) (t : DFb) (f : DF) (ρw : En) : List D → Mem → R Unit
  | [], m => if s.ok m = true then .ok () m else .stk
  | d :: ds, m => if s.ok m = true then (γ d ρw m).bnd fun ρ1 m1 => (t ρ1 m1).bnd fun b m2 => if b = true then (f ρ1 m2).bnd fun y m3 => (match m3[l]? with
      | some (.lst acc) => if acc.length < sizeLine then lcF l s γ t f ρw ds (m3.set l (.lst (acc ++ [y]))) else .stk
      | _ => .stk) else lcF l s γ t f ρw ds m2 else .stk
/-- [f for γ in φ if t] -/
def dLc (φ : DFi) (γ : D → En → Mem → R En) (t : DFb) (f : DF) (vs : List Nat) : DF := fun ρ m => (φ ρ m).bind fun s m1 => (lcF m1.length s γ t f (wipeD ρ vs) s.items (m1 ++ [.lst []])).bnd fun _ m2 => .ok (.ref m1.length) m2
def dYes : DFb := fun _ m => .ok true m
/-- the second clause's walk -/
def lc2F (l : Nat) (s : Src) (γ : D → En → Mem → R En) (t : DFb) (φ1 : DFi) (γ1 : D → En → Mem → R En) (t1 : DFb) (f : DF) (vs1 : List Nat) (ρw : En) : List D → Mem → R Unit
  | [], m => if s.ok m = true then .ok () m else .stk
  | d :: ds, m => if s.ok m = true then (γ d ρw m).bnd fun ρ1 m1 => (t ρ1 m1).bnd fun b m2 => if b = true then (φ1 ρ1 m2).bnd fun s1 m3 => (lcF l s1 γ1 t1 f (wipeD ρ1 vs1) s1.items m3).bnd fun _ m4 => lc2F l s γ t φ1 γ1 t1 f vs1 ρw ds m4
      else lc2F l s γ t φ1 γ1 t1 f vs1 ρw ds m2 else .stk
def dLc2 (φ : DFi) (γ : D → En → Mem → R En) (t : DFb) (φ1 : DFi) (γ1 : D → En → Mem → R En) (t1 : DFb) (f : DF) (vs vs1 : List Nat) : DF := fun ρ m => (φ ρ m).bind fun s m1 =>
  (lc2F m1.length s γ t φ1 γ1 t1 f vs1 (wipeD ρ vs) s.items (m1 ++ [.lst []])).bnd fun _ m2 => .ok (.ref m1.length) m2

section
variable {X : Cx} {K : PySem.W.Frag} {w : World} {mg : Str → Option Value} {W : WX} {σ σ' : L2.St} {ι ι' : Nat → Addr} {n n' : Nat} {H H' : Hp} {α β : Type}
theorem fin_bnd {post : (Nat → Addr) → Mem → Hp → β → Prop} {r : R α} {g : α → Mem → R β} (h : fin K w mg W σ ι n H post (r.bnd g)) :
    fin K w mg W0 σ' ι n H (fun ι' m' H' a => fin K w mg W σ ι' m'.length H' post (g a m')) r := by
  cases r with
  | ok a m => exact fun ι2 H2 S2 M => fin_step (show fin K w mg W σ ι n H post (g a m) from h) S2
  | exn c fs m => exact h.elim
  | stk => exact h.elim
theorem fin_bnd' {post : (Nat → Addr) → Mem → Hp → β → Prop} {post' : (Nat → Addr) → Mem → Hp → α → Prop} {r : R α} {g : α → Mem → R β} (h : fin K w mg W σ ι n H post (r.bnd g))
    (i : ∀ ι' m' H' a, Step ι n H ι' m'.length H' → RelM K w ι' m' H' → fin K w mg W σ ι' m'.length H' post (g a m') → post' ι' m' H' a) : fin K w mg W0 σ' ι n H post' r :=
  fin_imp (fin_bnd h) fun ι' m' H' a _ S M q => i ι' m' H' a S M q
theorem wipe_idem (σ : L2.St) : ∀ js : List Nat, wipe (wipe σ js) js = wipe σ js := by
  have out : ∀ (js : List Nat) (τ : L2.St), (∀ i, i ∈ js → i < τ.length → τ[i]? = some none) → wipe τ js = τ := by
    intro js
    induction js with
    | nil => intro τ _; rfl
    | cons j js ih =>
      intro τ h
      show (wipe τ js).set j none = τ
      rw [ih τ fun i hi => h i (List.mem_cons_of_mem _ hi)]
      apply List.ext_getElem?
      intro i
      by_cases hij : j = i
      · subst hij
        by_cases hl : j < τ.length
        · rw [List.getElem?_set_self hl, h j List.mem_cons_self hl]
        · rw [List.getElem?_eq_none (by rw [List.length_set]; omega), List.getElem?_eq_none (by omega)]
      · rw [List.getElem?_set_ne hij]
  have ins : ∀ (js : List Nat) (i : Nat), i ∈ js → i < (wipe σ js).length → (wipe σ js)[i]? = some none := by
    intro js
    induction js with
    | nil => intro i hi; cases hi
    | cons j js ih =>
      intro i hi hl
      have hl' : i < (wipe σ js).length := by rw [wipe_length] at hl ⊢; exact hl
      show ((wipe σ js).set j none)[i]? = some none
      by_cases hij : j = i
      · subst hij
        rw [List.getElem?_set_self hl']
      · rw [List.getElem?_set_ne hij]
        exact ih i ((List.mem_cons.mp hi).resolve_left fun e => hij e.symm) hl'
  exact fun js => out js _ fun i hi hl => ins js i hi hl
theorem RelE.wipe {ρ : En} (h : RelE K ι n H ρ σ) : ∀ js : List Nat, RelE K ι n H (wipeD ρ js) (L2.wipe σ js)
  | [] => h
  | j :: js => by
    have r := RelE.wipe h js
    show RelE K ι n H ((wipeD ρ js).set j none) ((L2.wipe σ js).set j none)
    refine ⟨by rw [List.length_set, List.length_set]; exact r.1, fun i d e => ?_⟩
    by_cases hij : j = i
    · subst hij
      by_cases hl : j < (wipeD ρ js).length
      · rw [List.getElem?_set_self hl] at e; cases e
      · rw [List.getElem?_eq_none (by rw [List.length_set]; omega)] at e; cases e
    · rw [List.getElem?_set_ne hij] at e ⊢
      exact r.2 i d e
/-- the list at l gets one more -/
theorem rel_app {m : Mem} {l : Nat} {acc : List D} {y : D} {v : V} (M : RelM K w ι m H) (h : m[l]? = some (.lst acc)) (r : Rep K ι m.length H y v) :
    ∃ vs, H (ι l) = some (.lst vs) ∧ vs.length = acc.length ∧ Step ι m.length H ι (m.set l (.lst (acc ++ [y]))).length (upd H (ι l) (.lst (vs ++ [v]))) ∧ RelM K w ι (m.set l (.lst (acc ++ [y]))) (upd H (ι l) (.lst (vs ++ [v]))) := by
  obtain ⟨vs, h1, h2⟩ := M.obj l _ h
  have S := Step.wr (ho := .lst (vs ++ [v])) M h rfl
  refine ⟨vs, h1, h2.length, by rw [List.length_set]; exact S, M.wr h rfl rfl ⟨_, upd_same, ?_⟩⟩
  exact (Reps.step S _ _ h2).append (Reps.cons (r.step S) Reps.nil)
theorem lcF_nil {l : Nat} {s : Src} {γ : D → En → Mem → R En} {t : DFb} {f : DF} {ρw : En} {m : Mem} : lcF l s γ t f ρw [] m = if s.ok m = true then .ok () m else .stk := rfl

/-- one walk of a comprehension, its list at l: F what stands behind it -/
theorem lc_walk {l : Nat} {s : Src} {γ : D → En → Mem → R En} {t : DFb} {f : DF} {ρ : En} {js : List Nat} {σ1 σ0 : L2.St} {ι0 : Nat → Addr} {m0 : Mem} {H0 : Hp} {J : It} {g : TG} {tt : TT} {te : TE} {sl : List Nat} {post : (Nat → Addr) → Mem → Hp → Unit → Prop} {Nx : Hp → Prop} {De : Addr}
    (gk : GOk K w mg W0 g γ sl) (hsl : ∀ i ∈ sl, i ∈ js) (htt : ∀ σ H Q, rdT K w mg W0 t σ H Q → tt σ H Q) (hte : ∀ σ H Q, rdE K w mg W0 f σ H Q → te σ H Q) (hJ : ItR K w ι0 m0.length H0 J s) (e0 : RelE K ι0 m0.length H0 ρ σ1) (hl : l < m0.length) (hD : ι0 l = De)
    (M0 : RelM K w ι0 m0 H0) (q : fin K w mg W σ0 ι0 m0.length H0 post (lcF l s γ t f (wipeD ρ js) s.items m0)) (hp : ∀ ι' m' H', Step ι0 m0.length H0 ι' m'.length H' → RelM K w ι' m' H' → post ι' m' H' () → Nx H') :
    ∃ Wi : Nat → Nat → Hp → Prop, (∃ m, Wi 0 m H0) ∧ ∀ j k H, Wi j k H →
      (J.stop j H ∧ Nx H) ∨ (J.go j H ∧ ∃ Nx1 : Hp → Prop, (∀ H', Nx1 H' → ∃ k', k' < k ∧ Wi (j + 1) k' H') ∧ ∀ x H', J.yld j H x H' → g x (wipe σ1 js) H' fun σ3 H5 => wipe σ3 js = wipe σ1 js ∧ tt σ3 H5 fun b H6 =>
        if b = true then te σ3 H6 fun y H7 => ∃ acc, H7 De = some (.lst acc) ∧ acc.length < sizeLine ∧ Nx1 (upd H7 De (.lst (acc ++ [y]))) else Nx1 H6) := by
  refine ⟨fun i k H => ∃ ι1 m1, Step ι0 m0.length H0 ι1 m1.length H ∧ RelM K w ι1 m1 H ∧ i + k = s.items.length ∧ fin K w mg W σ0 ι1 m1.length H post (lcF l s γ t f (wipeD ρ js) (s.items.drop i) m1),
    ⟨s.items.length, ι0, m0, Step.refl _ _ _, M0, by omega, q⟩, ?_⟩
  rintro i k H1 ⟨ι1, m1, S1, M1, hk, q1⟩
  have e1 := e0.step S1
  by_cases hi : i < s.items.length
  · rw [List.drop_eq_getElem_cons hi] at q1
    have hd : s.items[i]? = some s.items[i] := List.getElem?_eq_getElem hi
    generalize s.items[i] = d at q1 hd
    cases hok : s.ok m1 with
    | false =>
      unfold lcF at q1
      rw [hok] at q1
      exact q1.elim
    | true =>
      unfold lcF at q1
      rw [hok, if_pos rfl] at q1
      refine .inr ⟨hJ.go ι1 m1 H1 i d S1 M1 hok hd, fun H' => ∃ ι2 m2, Step ι0 m0.length H0 ι2 m2.length H' ∧ RelM K w ι2 m2 H' ∧ fin K w mg W σ0 ι2 m2.length H' post (lcF l s γ t f (wipeD ρ js) (s.items.drop (i + 1)) m2),
        fun H' ⟨ι2, m2, S2, M2, q2⟩ => ⟨k - 1, by omega, ι2, m2, S2, M2, by omega, q2⟩, fun x H' y => ?_⟩
      obtain ⟨S2, M2, r2⟩ := hJ.yld ι1 m1 H1 i d x H' S1 M1 hok hd y
      refine gk (wipe σ1 js) ι1 (wipeD ρ js) m1 H' d x _ ((e1.step S2).wipe js) M2 r2 (fin_bnd' (fin_step q1 S2) fun ι3 m3 H3 ρ3 S3 M3 q3 σ3 e3 w3 => ?_)
      refine ⟨(w3 js hsl).trans (wipe_idem σ1 js), htt _ _ _ ⟨ι3, ρ3, m3, e3, M3, fin_bnd' q3 fun ι4 m4 H4 b S4 M4 q4 => ?_⟩⟩
      have T4 := ((S1.trans S2).trans S3).trans S4
      cases b with
      | false => exact ⟨ι4, m4, T4, M4, q4⟩
      | true =>
        refine hte _ _ _ ⟨ι4, ρ3, m4, e3.step S4, M4, fin_bnd' q4 fun ι5 m5 H5 yd S5 M5 q5 yv ry => ?_⟩
        have T5 := T4.trans S5
        cases hm : m5[l]? with
        | none => rw [hm] at q5; exact q5.elim
        | some o =>
          rw [hm] at q5
          cases o with
          | lst acc =>
            by_cases hz : acc.length < sizeLine
            · have q6 : fin K w mg W σ0 ι5 m5.length H5 post (if acc.length < sizeLine then lcF l s γ t f (wipeD ρ js) (s.items.drop (i + 1)) (m5.set l (.lst (acc ++ [yd]))) else .stk) := q5
              rw [if_pos hz] at q6
              obtain ⟨vs, h1, h2, h3, h4⟩ := rel_app M5 hm ry
              have hDe : ι5 l = De := (T5.ext l hl).trans hD
              rw [hDe] at h1 h3 h4
              exact ⟨vs, h1, by omega, ι5, _, T5.trans h3, h4, fin_step q6 h3⟩
            · have q6 : fin K w mg W σ0 ι5 m5.length H5 post (if acc.length < sizeLine then lcF l s γ t f (wipeD ρ js) (s.items.drop (i + 1)) (m5.set l (.lst (acc ++ [yd]))) else .stk) := q5
              rw [if_neg hz] at q6
              exact q6.elim
          | _ => exact q5.elim
  · have hi2 : i = s.items.length := by omega
    subst hi2
    rw [List.drop_length, lcF_nil] at q1
    cases hok : s.ok m1 with
    | false => rw [hok] at q1; exact q1.elim
    | true =>
      rw [hok, if_pos rfl] at q1
      exact .inl ⟨hJ.stop ι1 m1 H1 S1 M1 hok, hp ι1 m1 H1 S1 M1 (q1 ι1 H1 (Step.refl _ _ _) M1)⟩

/-- a comprehension's own tests -/
def DTs (X : Cx) (W : WX) (ifs : List Expr) (t : DFb) : Prop := PTs X ifs (rdT X.K X.w X.mg W t)
theorem pts_imp {ifs : List Expr} {t t' : TT} (h : PTs X ifs t) (i : ∀ σ H Q, t' σ H Q → t σ H Q) : PTs X ifs t' := ⟨fun pins s σ H Q I hq => h.run pins s σ H Q I (i σ H Q hq)⟩
theorem dts_nil : DTs X W [] dYes := pts_imp pts_nil fun σ H Q h => by
  obtain ⟨ι, ρ, m, e, M, q⟩ := h
  exact fin_nowB (b := true) (Q := Q) q M
theorem dts_one {c : Expr} {t : DFb} (h : DT X W c t) : DTs X W [c] t := pts_one h
theorem rd_lc {φ : DFi} {γ : D → En → Mem → R En} {t : DFb} {f : DF} {js : List Nat} {g : TG} {sl : List Nat} (gk : GOk K w mg W0 g γ sl) (hsl : ∀ i ∈ sl, i ∈ js) {Q : VK} (h : rdE K w mg W (dLc φ γ t f js) σ H Q) :
    tLc (rdI K w mg W φ) g (rdT K w mg W0 t) (rdE K w mg W0 f) js σ H Q := by
  obtain ⟨ι, ρ, m, e, M, q⟩ := h
  refine ⟨ι, ρ, m, e, M, fin_then q fun ι1 m1 H1 s S1 M1 q1 J hJ De hD => ?_⟩
  have hl : (m1 ++ [MO.lst []]).length = m1.length + 1 := by simp
  have S2 : Step ι1 m1.length H1 (more ι1 m1.length De) (m1 ++ [MO.lst []]).length (upd H1 De (.lst [])) := by rw [hl]; exact Step.new hD
  have M2 : RelM K w (more ι1 m1.length De) (m1 ++ [MO.lst []]) (upd H1 De (.lst [])) := M1.new hD ⟨[], upd_same, Reps.nil⟩
  have hJ2 : ItR K w (more ι1 m1.length De) (m1 ++ [MO.lst []]).length (upd H1 De (.lst [])) J s :=
    ⟨fun ι' m' H' i d S M o e => hJ.go ι' m' H' i d (S2.trans S) M o e, fun ι' m' H' i d x H'' S M o e y => hJ.yld ι' m' H' i d x H'' (S2.trans S) M o e y, fun ι' m' H' S M o => hJ.stop ι' m' H' (S2.trans S) M o⟩
  refine lc_walk (σ1 := σ) (ρ := ρ) (σ0 := σ) (W := W) gk hsl (fun _ _ _ z => z) (fun _ _ _ z => z) hJ2 ((e.step S1).step S2) (by rw [hl]; exact Nat.lt_succ_self _) more_new M2 (q := ?_) (post := fun ι' m' H' _ => fin K w mg W σ ι' m'.length H' (pV K Q) (.ok (.ref m1.length) m')) fun ι' m' H' S M z => ?_
  · have q2 := fin_step q1 S2
    cases hr : lcF m1.length s γ t f (wipeD ρ js) s.items (m1 ++ [MO.lst []]) with
    | ok a m3 => rw [hr] at q2; exact fun ι3 H3 S3 M3 => fin_step q2 S3
    | exn c fs m3 => rw [hr] at q2; exact q2.elim
    | stk => rw [hr] at q2; exact q2.elim
  · refine z ι' H' (Step.refl _ _ _) M (.ref De) ⟨?_, ?_⟩
    · have := S.le
      rw [hl] at this
      omega
    · rw [S.ext m1.length (by rw [hl]; exact Nat.lt_succ_self _), more_new]
theorem de_lc {elt tg iter : Expr} {ifs : List Expr} {scope : Scope} {own : List (Str × Nat)} {pos : Pos} {φ : DFi} {g : TG} {γ : D → En → Mem → R En} {sl : List Nat} {t : DFb} {f : DF} (hc : X.calm = true) (hN : X.N.Nodup) (hi : DI X W tg iter φ) (ok : BlkOk X.N X.env.scope scope own)
    (hg : ∀ (s : Shared) (H : Hp) (C : Addr) (cl : List (Str × Addr)) (fp : List Addr), PG (X.blk s H scope (compEnvC scope cl C X.env) fp) tg g) (gk : GOk X.K X.w X.mg W0 g γ sl) (hsl : ∀ i ∈ sl, i ∈ own.map (·.2))
    (ht : ∀ (s : Shared) (H : Hp) (C : Addr) (cl : List (Str × Addr)) (fp : List Addr), DTs (X.blk s H scope (compEnvC scope cl C X.env) fp) W0 ifs t)
    (he : ∀ (s : Shared) (H : Hp) (C : Addr) (cl : List (Str × Addr)) (fp : List Addr), DE (X.blk s H scope (compEnvC scope cl C X.env) fp) W0 elt f) (hs : ∀ x, foldedSetIterable iter X.env x = pure x := by intro _; rfl) :
    DE X W (.ListComp elt [⟨tg, iter, ifs, 0⟩] scope pos) (dLc φ γ t f (own.map (·.2))) := pe_imp (pe_lc (tt := rdT X.K X.w X.mg W0 t) (te := rdE X.K X.w X.mg W0 f) hc hN hi ok hg ht he hs) fun _ _ _ h => rd_lc gk hsl h
theorem ds_setLc {i : Nat} {y : Str} {py : Pos} {elt tg iter : Expr} {ifs : List Expr} {scope : Scope} {own : List (Str × Nat)} {pos spos : Pos} {φ : DFi} {g : TG} {γ : D → En → Mem → R En} {sl : List Nat} {t : DFb} {f : DF} (hc : X.calm = true) (hN : X.N.Nodup) (hy : X.N[i]? = some y)
    (hyl : X.env.scope.names.lookup y = some .local) (hsw : swapsWith (.ListComp elt [⟨tg, iter, ifs, 0⟩] scope pos) (some (.Name y py)) spos.line X.env = pure true) (hi : DI X W tg iter φ) (ok : BlkOk X.N X.env.scope scope own)
    (hg : ∀ (s : Shared) (H : Hp) (C : Addr) (cl : List (Str × Addr)) (fp : List Addr), PG (X.blk s H scope (compEnvC scope cl C X.env) fp) tg g) (gk : GOk X.K X.w X.mg W0 g γ sl) (hsl : ∀ i ∈ sl, i ∈ own.map (·.2))
    (ht : ∀ (s : Shared) (H : Hp) (C : Addr) (cl : List (Str × Addr)) (fp : List Addr), DTs (X.blk s H scope (compEnvC scope cl C X.env) fp) W0 ifs t)
    (he : ∀ (s : Shared) (H : Hp) (C : Addr) (cl : List (Str × Addr)) (fp : List Addr), DE (X.blk s H scope (compEnvC scope cl C X.env) fp) W0 elt f) (hs : ∀ x, foldedSetIterable iter X.env x = pure x := by intro _; rfl) :
    DS X W (.Assign [.Name y py] (.ListComp elt [⟨tg, iter, ifs, 0⟩] scope pos) spos) (dSet i (dLc φ γ t f (own.map (·.2)))) := ps_imp (ps_setLc (i := i) (tt := rdT X.K X.w X.mg W0 t) (te := rdE X.K X.w X.mg W0 f) hc hN hy hyl hsw hi ok hg ht he hs) fun E σ H h => by
  obtain ⟨ι, ρ, m, e, M, q⟩ := h
  exact rd_lc gk hsl ⟨ι, ρ, m, e, M, fin_goes' e q fun ι1 m1 H1 d S1 M1 e1 q1 v rv => finS_nx q1 M1 (e1.set rv i)⟩
theorem rd_lc2 {φ φ1 : DFi} {γ γ1 : D → En → Mem → R En} {t t1 : DFb} {f : DF} {js js1 : List Nat} {g g1 : TG} {sl sl1 : List Nat} (gk : GOk K w mg W0 g γ sl) (hsl : ∀ i ∈ sl, i ∈ js) (gk1 : GOk K w mg W0 g1 γ1 sl1) (hsl1 : ∀ i ∈ sl1, i ∈ js1) {Q : VK}
    (h : rdE K w mg W (dLc2 φ γ t φ1 γ1 t1 f js js1) σ H Q) : tLc2 (rdI K w mg W φ) g (rdT K w mg W0 t) (rdI K w mg W0 φ1) g1 (rdT K w mg W0 t1) (rdE K w mg W0 f) js js1 σ H Q := by
  obtain ⟨ι, ρ, m, e, M, q⟩ := h
  refine ⟨ι, ρ, m, e, M, fin_then q fun ι1 m1 H1 s S1 M1 q1 J hJ De hD => ?_⟩
  have hl : (m1 ++ [MO.lst []]).length = m1.length + 1 := by simp
  have S2 : Step ι1 m1.length H1 (more ι1 m1.length De) (m1 ++ [MO.lst []]).length (upd H1 De (.lst [])) := by rw [hl]; exact Step.new hD
  have M2 : RelM K w (more ι1 m1.length De) (m1 ++ [MO.lst []]) (upd H1 De (.lst [])) := M1.new hD ⟨[], upd_same, Reps.nil⟩
  have q2 := fin_step q1 S2
  refine ⟨fun i k H => ∃ ι3 m3, Step (more ι1 m1.length De) (m1 ++ [MO.lst []]).length (upd H1 De (.lst [])) ι3 m3.length H ∧ RelM K w ι3 m3 H ∧ i + k = s.items.length ∧
      fin K w mg W σ ι3 m3.length H (pV K Q) ((lc2F m1.length s γ t φ1 γ1 t1 f js1 (wipeD ρ js) (s.items.drop i) m3).bnd fun _ m2 => .ok (.ref m1.length) m2),
    ⟨s.items.length, _, _, Step.refl _ _ _, M2, by omega, q2⟩, ?_⟩
  rintro i k H3 ⟨ι3, m3, S3, M3, hk, q3⟩
  have e3 := ((e.step S1).step S2).step S3
  by_cases hi : i < s.items.length
  · rw [List.drop_eq_getElem_cons hi] at q3
    have hd : s.items[i]? = some s.items[i] := List.getElem?_eq_getElem hi
    generalize s.items[i] = d at q3 hd
    cases hok : s.ok m3 with
    | false =>
      unfold lc2F at q3
      rw [hok] at q3
      exact q3.elim
    | true =>
      unfold lc2F at q3
      rw [hok, if_pos rfl] at q3
      refine .inr ⟨hJ.go ι3 m3 H3 i d (S2.trans S3) M3 hok hd, fun H' => ∃ ι4 m4, Step (more ι1 m1.length De) (m1 ++ [MO.lst []]).length (upd H1 De (.lst [])) ι4 m4.length H' ∧ RelM K w ι4 m4 H' ∧
          fin K w mg W σ ι4 m4.length H' (pV K Q) ((lc2F m1.length s γ t φ1 γ1 t1 f js1 (wipeD ρ js) (s.items.drop (i + 1)) m4).bnd fun _ m2 => .ok (.ref m1.length) m2),
        fun H' ⟨ι4, m4, S4, M4, q4⟩ => ⟨k - 1, by omega, ι4, m4, S4, M4, by omega, q4⟩, fun x H' y => ?_⟩
      obtain ⟨S4, M4, r4⟩ := hJ.yld ι3 m3 H3 i d x H' (S2.trans S3) M3 hok hd y
      have T4 := S3.trans S4
      have q4 := fin_step q3 S4
      -- the strict bind of a strict bind
      have assoc : ∀ {a b : Type} (r : R a) (f1 : a → Mem → R b), (r.bnd f1).bnd (fun (_ : b) m2 => (.ok (.ref m1.length) m2 : R D)) = r.bnd fun x m => (f1 x m).bnd fun _ m2 => .ok (.ref m1.length) m2 := by
        intro a b r f1
        cases r <;> rfl
      rw [assoc] at q4
      refine gk (wipe σ js) ι3 (wipeD ρ js) m3 H' d x _ ((e3.step S4).wipe js) M4 r4 (fin_bnd' q4 fun ι5 m5 H5 ρ5 S5 M5 q5 σ5 e5 w5 => ?_)
      rw [assoc] at q5
      refine ⟨(w5 js hsl).trans (wipe_idem σ js), ι5, ρ5, m5, e5, M5, fin_bnd' q5 fun ι6 m6 H6 b S6 M6 q6 => ?_⟩
      have T6 := (T4.trans S5).trans S6
      cases b with
      | false => exact ⟨ι6, m6, T6, M6, q6⟩
      | true =>
        have q6' : fin K w mg W σ ι6 m6.length H6 (pV K Q) (((φ1 ρ5 m6).bnd fun s1 m3 => (lcF m1.length s1 γ1 t1 f (wipeD ρ5 js1) s1.items m3).bnd fun _ m4 => lc2F m1.length s γ t φ1 γ1 t1 f js1 (wipeD ρ js) (s.items.drop (i + 1)) m4).bnd fun _ m2 => .ok (.ref m1.length) m2) := q6
        rw [assoc] at q6'
        refine ⟨ι6, ρ5, m6, e5.step S6, M6, fin_bnd' q6' fun ι7 m7 H7 s7 S7 M7 q7 J7 hJ7 => ?_⟩
        rw [assoc] at q7
        have T7 := T6.trans S7
        have hl7 : m1.length < m7.length := by
          have := T7.le
          rw [hl] at this
          omega
        refine lc_walk (σ1 := σ5) (ρ := ρ5) (σ0 := σ) (W := W) gk1 hsl1 (fun _ _ _ z => z) (fun _ _ _ z => z) hJ7 ((e5.step S6).step S7) hl7 ((T7.ext m1.length (by rw [hl]; exact Nat.lt_succ_self _)).trans more_new) M7 (q := ?_)
          (post := fun ι' m' H' _ => fin K w mg W σ ι' m'.length H' (pV K Q) ((lc2F m1.length s γ t φ1 γ1 t1 f js1 (wipeD ρ js) (s.items.drop (i + 1)) m').bnd fun _ m2 => .ok (.ref m1.length) m2)) fun ι' m' H' S M z => ⟨ι', m', T7.trans S, M, z⟩
        cases hr : lcF m1.length s7 γ1 t1 f (wipeD ρ5 js1) s7.items m7 with
        | ok a m8 => rw [hr] at q7; exact fun ι8 H8 S8 M8 => fin_step q7 S8
        | exn c fs m8 => rw [hr] at q7; exact q7.elim
        | stk => rw [hr] at q7; exact q7.elim
  · have hi2 : i = s.items.length := by omega
    subst hi2
    rw [List.drop_length] at q3
    cases hok : s.ok m3 with
    | false =>
      unfold lc2F at q3
      rw [hok] at q3
      exact q3.elim
    | true =>
      unfold lc2F at q3
      rw [hok, if_pos rfl] at q3
      refine .inl ⟨hJ.stop ι3 m3 H3 (S2.trans S3) M3 hok, q3 ι3 H3 (Step.refl _ _ _) M3 (.ref De) ⟨?_, ?_⟩⟩
      · have := S3.le
        rw [hl] at this
        omega
      · rw [S3.ext m1.length (by rw [hl]; exact Nat.lt_succ_self _), more_new]
theorem de_lc2 {elt tg iter tg1 iter1 : Expr} {ifs ifs1 : List Expr} {scope : Scope} {own : List (Str × Nat)} {vs1 : List Nat} {pos : Pos} {φ φ1 : DFi} {g g1 : TG} {γ γ1 : D → En → Mem → R En} {sl sl1 : List Nat} {t t1 : DFb} {f : DF} (hc : X.calm = true) (hN : X.N.Nodup) (hi : DI X W tg iter φ)
    (ok : BlkOk X.N X.env.scope scope own) (hv : ∀ i ∈ vs1, i ∈ own.map (·.2))
    (hg : ∀ (s : Shared) (H : Hp) (C : Addr) (cl : List (Str × Addr)) (fp : List Addr), PG (X.blk s H scope (compEnvC scope cl C X.env) fp) tg g) (gk : GOk X.K X.w X.mg W0 g γ sl) (hsl : ∀ i ∈ sl, i ∈ own.map (·.2))
    (ht : ∀ (s : Shared) (H : Hp) (C : Addr) (cl : List (Str × Addr)) (fp : List Addr), DTs (X.blk s H scope (compEnvC scope cl C X.env) fp) W0 ifs t)
    (hi1 : ∀ (s : Shared) (H : Hp) (C : Addr) (cl : List (Str × Addr)) (fp : List Addr), DI (X.blk s H scope (compEnvC scope cl C X.env) fp) W0 tg1 iter1 φ1)
    (hg1 : ∀ (s : Shared) (H : Hp) (C : Addr) (cl : List (Str × Addr)) (fp : List Addr), PG (X.blk s H scope (compEnvC scope cl C X.env) fp) tg1 g1) (gk1 : GOk X.K X.w X.mg W0 g1 γ1 sl1) (hsl1 : ∀ i ∈ sl1, i ∈ vs1)
    (ht1 : ∀ (s : Shared) (H : Hp) (C : Addr) (cl : List (Str × Addr)) (fp : List Addr), DTs (X.blk s H scope (compEnvC scope cl C X.env) fp) W0 ifs1 t1)
    (he : ∀ (s : Shared) (H : Hp) (C : Addr) (cl : List (Str × Addr)) (fp : List Addr), DE (X.blk s H scope (compEnvC scope cl C X.env) fp) W0 elt f) (hs : ∀ x, foldedSetIterable iter X.env x = pure x := by intro _; rfl) (hs1 : ∀ env x, foldedSetIterable iter1 env x = pure x := by intro _ _; rfl) :
    DE X W (.ListComp elt [⟨tg, iter, ifs, 0⟩, ⟨tg1, iter1, ifs1, 0⟩] scope pos) (dLc2 φ γ t φ1 γ1 t1 f (own.map (·.2)) vs1) := pe_imp (pe_lc2 (wi1 := rdI X.K X.w X.mg W0 φ1) (tt1 := rdT X.K X.w X.mg W0 t1) (tt := rdT X.K X.w X.mg W0 t) (te := rdE X.K X.w X.mg W0 f) hc hN hi ok hv hg ht hi1 hg1 ht1 he hs hs1) fun _ _ _ h => rd_lc2 gk hsl gk1 hsl1 h

/-! ### calls of defs -/
def spD (K : PySem.W.Frag) (w : World) (mg : Str → Option Value) (np : Nat) (F : List D → Mem → R D) : Sp := fun vs H Q E => vs.length = np ∧ ∃ ι ds m, Reps K ι m.length H ds vs ∧ RelM K w ι m H ∧ fin K w mg (fun c d _ H' => E c d H') [] ι m.length H (pV K Q) (F ds m)
/-- the def at f is F -/
structure Fn (X : Cx) (k : Nat) (f : Addr) (fd : FuncData) (ps : List Str) (F : List D → Mem → R D) : Prop where
  ok : FnOk X.prog X.w X.K X.mg X.base (L2.CX X.prog X.w) k f fd ps (spD X.K X.w X.mg ps.length F)
  len : ∀ ds m, ds.length ≠ ps.length → F ds m = .stk
/-- what a callee raises reaches W -/
def Pass (X : Cx) (W : WX) : Prop := ∀ σ, PassesAt (L2.CX X.prog X.w) X σ (WE W σ)
theorem pass_of {W : WX} (tk : Takes X W) : Pass X W := fun σ => passAt tk σ
theorem pass_W0 : Pass X W0 := fun σ => fun _ _ _ _ _ _ h => by
  obtain ⟨_, _, _, _, _, _, _, _, _, _, _, _, z⟩ := h
  exact z.elim
def dApp (F : List D → Mem → R D) (dds : List D) (fs : DFs) : DF := fun ρ m => (fs ρ m).bind fun ds m1 => F (ds ++ dds) m1
theorem fin_slots {α : Type} {post : (Nat → Addr) → Mem → Hp → α → Prop} {r : R α} (h : fin K w mg W σ ι n H post r) : fin K w mg (fun c d _ H' => WE W σ c d H') [] ι n H post r := by
  cases r with
  | ok a m => exact h
  | exn c fs m => exact h
  | stk => exact h
variable {k : Nat} {f : Addr} {fd : FuncData} {ps : List Str} {F : List D → Mem → R D} {dvs : List V} {ds : List Value} {dds : List D} {x : Str} {p pos : Pos} {e : Expr} {es : List Expr} {fs : DFs}
theorem rd_app (G : Fn X k f fd ps F) (hdd : ∀ ι n H, Reps X.K ι n H dds dvs) {Q : VK} (h : rdE X.K X.w X.mg W (dApp F dds fs) σ H Q) : tCallSD (spD X.K X.w X.mg ps.length F) dvs (fun σ => WE W σ) (rdA X.K X.w X.mg W fs) σ H Q := by
  obtain ⟨ι, ρ, m, e, M, q⟩ := h
  refine ⟨ι, ρ, m, e, M, fin_then q fun ι1 m1 H1 ds1 S1 M1 q1 vs rv => ?_⟩
  have r2 : Reps X.K ι1 m1.length H1 (ds1 ++ dds) (vs ++ dvs) := rv.append (hdd _ _ _)
  refine ⟨?_, ι1, ds1 ++ dds, m1, r2, M1, fin_slots q1⟩
  by_cases hl : (ds1 ++ dds).length = ps.length
  · rw [r2.length]; exact hl
  · have q2 : fin X.K X.w X.mg W σ ι1 m1.length H1 (pV X.K Q) (F (ds1 ++ dds) m1) := q1
    rw [G.len _ _ hl] at q2
    exact q2.elim
theorem de_call (G : Fn X k f fd ps F) (hr : Room k X.A) (hg : Gl X x) (hm : X.mg x = some (.ref f)) (hk : PySem.W.keepIn X.K (.ref f) = true)
    (hb : Binds X.K fd ps ds) (hd : Vals dvs ds) (hdd : ∀ ι n H, Reps X.K ι n H dds dvs) (hx : Pass X W) (ha : DA X W (e :: es) fs) (hdb : (x == ("__debug__" : Str)) = false := by decide) (he : starEach (e :: es) X.env = (false, eval e X.env) :: starEach es X.env := by rfl)
    (hpl : (backTo pos (starEach es X.env)).any (·.1) = false := by rfl) : DE X W (.Call (.Name x p) (e :: es) [] pos) (dApp F dds fs) :=
  pe_imp (pe_callSD (E := fun σ => WE W σ) (t := rdA X.K X.w X.mg W fs) G.ok hr hg hm hk hb hd hx ha hdb he hpl) fun _ _ _ h => rd_app G hdd h

/-! ### defs -/
def envD (N : Nat) (ds : List D) : En := ds.map some ++ List.replicate (N - ds.length) none
def O.val : O → R D
  | .nx _ m => .ok .non m
  | .rt d m => .ok d m
  | .exn c fs _ m => .exn c fs m
  | _ => .stk
def runB (np N : Nat) (g : DSt) : List D → Mem → R D := fun ds m => if ds.length = np then (g (envD N ds) m).val else .stk
theorem rel_start {N : List Str} {ds : List D} {vs : List V} (r : Reps K ι n H ds vs) : RelE K ι n H (envD N.length ds) (start N vs) := by
  unfold envD L2.start
  have hl := r.length
  refine ⟨by simp [hl], fun i d e => ?_⟩
  have hi : i < ds.length := by
    by_cases hi : i < ds.length
    · exact hi
    · rw [List.getElem?_append_right (by simpa using hi), List.getElem?_replicate] at e
      split at e <;> cases e
  rw [List.getElem?_append_left (by simpa using hi), List.getElem?_map] at e
  cases h : ds[i]? with
  | none => rw [h] at e; cases e
  | some d' =>
    rw [h] at e
    cases e
    obtain ⟨v, h1, h2⟩ := r.get h
    exact ⟨v, by rw [List.getElem?_append_left (by simpa [hl] using hi), List.getElem?_map, h1]; rfl, h2⟩
theorem finS_val {g : DSt} {ρ : En} {m : Mem} {Q : VK} {Ex : XK} (h : fin K w mg (fun c d _ H' => Ex c d H') [] ι n H (pV K Q) (g ρ m).val) : finS K w mg (fun c d _ H' => Ex c d H') ι n H { nx := fun _ H' => Q .non H', rt := Q } (g ρ m) := by
  cases hg : g ρ m with
  | nx ρ' m' => rw [hg] at h; exact fun ι' H' σ' S M e => h ι' H' S M .non rfl
  | rt d m' => rw [hg] at h; exact fun ι' H' v S M r => h ι' H' S M v r
  | exn c fs ρ' m' => rw [hg] at h; exact fun ι' H' σ' C dx gs S M e => h ι' H' C dx gs S M
  | bk ρ' m' => rw [hg] at h; exact h.elim
  | ct ρ' m' => rw [hg] at h; exact h.elim
  | stk => rw [hg] at h; exact h.elim
/-- THE RULE of a def: its body -/
theorem fn_ok {P : Program} {base : Heap} {x qual : Str} {st : Stmt} {N : List Str} {g : DSt} (Fu : Fun K x qual st f fd) (S : FnScope N ps (defScope st))
    (hb : ∀ (cdv : Value) (A : Around) (outer : List Env) (s : Shared) (H : Hp) (Ex : XK), Room k (A.deeper (PyProof.Rows.envOfC qual (defScope st) s.heap.objs.size f cdv)) →
      DSs (cxOf (L2.CX P w) P w K mg base N qual (defScope st) f cdv A outer s H Ex) (fun c d _ H' => Ex c d H') (defBody st) g) :
    FnOk P w K mg base (L2.CX P w) (k + 1) f fd ps (spD K w mg ps.length (runB ps.length N.length g)) ∧ ∀ ds m, ds.length ≠ ps.length → runB ps.length N.length g ds m = .stk := by
  refine ⟨Fu.okX S (fun vs H Q E h => h.1) fun cdv A outer s H vs Q Ex hr h => ?_, fun ds m h => by unfold runB; rw [if_neg h]⟩
  refine ⟨_, hb cdv A outer s H Ex hr, ?_⟩
  obtain ⟨hl, ι, ds, m, r, M, q⟩ := h
  have hl2 : ds.length = ps.length := by rw [← r.length]; exact hl
  unfold runB at q
  rw [if_pos hl2] at q
  exact ⟨ι, envD N.length ds, m, rel_start r, M, finS_val q⟩
end
end DL
/-! The D layer: operators, comparisons, subscripts, built-in calls. -/
namespace DL
open PySem PySem.Spec L2

section
variable {X : Cx} {K : PySem.W.Frag} {w : World} {mg : Str → Option Value} {W : WX}

/-- an object as a list that is read -/
theorem list_of {ι : Nat → Addr} {m : Mem} {H : Hp} (M : RelM K w ι m H) {l : Nat} {xs : List D} (h : m[l]? = some (.lst xs) ∨ m[l]? = some (.frl xs)) : ∃ vs, SqL K H (ι l) vs ∧ Reps K ι m.length H xs vs := by
  rcases h with h | h
  · obtain ⟨vs, h1, h2⟩ := M.obj l _ h
    exact ⟨vs, .inl (.inl h1), h2⟩
  · exact (M.obj l _ h).frl_sq
def seqOf (m : Mem) : D → Option (List D)
  | .ref l => match m[l]? with
    | some (.lst xs) => some xs
    | some (.frl xs) => some xs
    | _ => none
  | _ => none
theorem seqOf_sq {ι : Nat → Addr} {m : Mem} {H : Hp} (M : RelM K w ι m H) {d : D} {xs : List D} {v : V} (h : seqOf m d = some xs) (r : Rep K ι m.length H d v) : ∃ a vs, v = .ref a ∧ SqL K H a vs ∧ Reps K ι m.length H xs vs := by
  cases d with
  | ref l =>
    obtain ⟨_, rfl⟩ := r
    unfold seqOf at h
    cases e : m[l]? with
    | none => simp [e] at h
    | some o =>
      simp only [e] at h
      cases o with
      | lst ys =>
        cases h
        obtain ⟨vs, h1, h2⟩ := list_of M (.inl e)
        exact ⟨_, vs, rfl, h1, h2⟩
      | frl ys =>
        cases h
        obtain ⟨vs, h1, h2⟩ := list_of M (.inr e)
        exact ⟨_, vs, rfl, h1, h2⟩
      | dct _ => cases h
      | stt _ => cases h
  | _ => cases h

/-! ### arithmetic -/
def opInt (g : Int → Int → Int) : O2 := fun d e m => match d, e with
  | .int i, .int j => .ok (.int (g i j)) m
  | _, _ => .stk
def opIntC (c : Int → Int → Bool) (g : Int → Int → Int) : O2 := fun d e m => match d, e with
  | .int i, .int j => if c i j = true then .ok (.int (g i j)) m else .stk
  | _, _ => .stk
def opCmpI (g : Int → Int → Bool) : O2 := fun d e m => match d, e with
  | .int i, .int j => .ok (.bl (g i j)) m
  | _, _ => .stk
theorem dop_int (g : Int → Int → Int) : DOp K w mg W (rI0 fun i j => .int (g i j)) (opInt g) := fun σ ι m H x y d e Q M rx ry q => by
  cases d with
  | int i =>
    cases e with
    | int j => exact ⟨i, j, rx, ry, fin_now (α := D) q M _ rfl⟩
    | _ => exact q.elim
  | _ => exact q.elim
theorem dop_cmpI (g : Int → Int → Bool) : DOp K w mg W (rI0 fun i j => .bl (g i j)) (opCmpI g) := fun σ ι m H x y d e Q M rx ry q => by
  cases d with
  | int i =>
    cases e with
    | int j => exact ⟨i, j, rx, ry, fin_now (α := D) q M _ rfl⟩
    | _ => exact q.elim
  | _ => exact q.elim
theorem dop_intC {C : Int → Int → Prop} {c : Int → Int → Bool} (g : Int → Int → Int) (hc : ∀ i j, c i j = true → C i j) : DOp K w mg W (rI C fun i j => .int (g i j)) (opIntC c g) := fun σ ι m H x y d e Q M rx ry q => by
  cases d with
  | int i =>
    cases e with
    | int j =>
      have q' : fin K w mg W σ ι m.length H (pV K Q) (if c i j = true then .ok (.int (g i j)) m else .stk) := q
      by_cases h : c i j = true
      · rw [if_pos h] at q'
        exact ⟨i, j, rx, ry, hc i j h, fin_now (α := D) q' M _ rfl⟩
      · rw [if_neg h] at q'
        exact q'.elim
    | _ => exact q.elim
  | _ => exact q.elim
abbrev opSub : O2 := opInt fun i j => i - j
/-- factors below a million bits together -/
def cMul (i j : Int) : Bool := decide (i.natAbs.log2 + j.natAbs.log2 < 1000000)
abbrev opMul : O2 := opIntC cMul fun i j => i * j
def cDiv (_ j : Int) : Bool := decide (0 < j ∧ j.natAbs.log2 < 9000)
abbrev opDiv : O2 := opIntC cDiv fun i j => i / j
def cMod (_ j : Int) : Bool := decide (0 < j)
abbrev opMod : O2 := opIntC cMod fun i j => i % j
def cPow (i j : Int) : Bool := decide (0 ≤ j ∧ j ≤ 1000000 ∧ i.natAbs < 2 ^ 64)
abbrev opPow : O2 := opIntC cPow fun i j => i ^ j.toNat
theorem de_subI {a b : Expr} {fa fb : DF} {pos : Pos} (ha : DE X W a fa) (hb : DE X W b fb) : DE X W (.BinOp a .Sub b pos) (dBin opSub fa fb) := de_op op_sub (dop_int _) ha hb
theorem de_mul {a b : Expr} {fa fb : DF} {pos : Pos} (ha : DE X W a fa) (hb : DE X W b fb) : DE X W (.BinOp a .Mult b pos) (dBin opMul fa fb) := de_op op_mulW (dop_intC _ fun i j h => by unfold CMulW; simpa [cMul] using h) ha hb
theorem de_fdiv {a b : Expr} {fa fb : DF} {pos : Pos} (ha : DE X W a fa) (hb : DE X W b fb) : DE X W (.BinOp a .FloorDiv b pos) (dBin opDiv fa fb) := de_op op_fdivW (dop_intC _ fun i j h => by unfold CDivW; simpa [cDiv] using h) ha hb
theorem de_mod {a b : Expr} {fa fb : DF} {pos : Pos} (ha : DE X W a fa) (hb : DE X W b fb) : DE X W (.BinOp a .Mod b pos) (dBin opMod fa fb) := de_op op_mod (dop_intC _ fun i j h => by unfold cMod at h; exact (decide_eq_true_eq.mp h)) ha hb
theorem de_pow {a b : Expr} {fa fb : DF} {pos : Pos} (ha : DE X W a fa) (hb : DE X W b fb) : DE X W (.BinOp a .Pow b pos) (dBin opPow fa fb) := de_op op_pow (dop_intC _ fun i j h => by unfold CPow; simpa [cPow] using h) ha hb
/-- + of ints, texts, tuples, lists -/
def opAdd : O2 := fun d e m => match d, e with
  | .int i, .int j => .ok (.int (i + j)) m
  | .str a, .str b => if a.length + b.length ≤ sizeLine then .ok (.str (a ++ b)) m else .stk
  | .tup xs, .tup ys => if xs.length + ys.length ≤ sizeLine then .ok (.tup (xs ++ ys)) m else .stk
  | .ref l, .ref k => match m[l]?, m[k]? with
    | some (.lst xs), some (.lst ys) => if xs.length + ys.length ≤ sizeLine then .ok (.ref m.length) (m ++ [.lst (xs ++ ys)]) else .stk
    | _, _ => .stk
  | _, _ => .stk
def rAddA (K : PySem.W.Frag) : R2 := fun x y H Q => rI0 (fun i j => .int (i + j)) x y H Q ∨ (∃ i j, x = .str i ∧ y = .str j ∧ i.length + j.length ≤ sizeLine ∧ Q (.str (i ++ j)) H) ∨ rCatA K x y H Q ∨ rCat x y H Q
theorem op_addA : OpR X (binaryOp .Add) (rAddA X.K) := op_add.or (op_add_str.or (op_catA.or op_cat))
theorem dop_add : DOp K w mg W (rAddA K) opAdd := fun σ ι m H x y d e Q M rx ry q => by
  cases d with
  | int i =>
    cases e with
    | int j => exact .inl ⟨i, j, rx, ry, fin_now (α := D) q M _ rfl⟩
    | _ => exact q.elim
  | str a =>
    cases e with
    | str b =>
      have q' : fin K w mg W σ ι m.length H (pV K Q) (if a.length + b.length ≤ sizeLine then .ok (.str (a ++ b)) m else .stk) := q
      by_cases h : a.length + b.length ≤ sizeLine
      · rw [if_pos h] at q'
        exact .inr (.inl ⟨a, b, rx, ry, h, fin_now (α := D) q' M _ rfl⟩)
      · rw [if_neg h] at q'
        exact q'.elim
    | _ => exact q.elim
  | tup xs =>
    cases e with
    | tup ys =>
      have q' : fin K w mg W σ ι m.length H (pV K Q) (if xs.length + ys.length ≤ sizeLine then .ok (.tup (xs ++ ys)) m else .stk) := q
      obtain ⟨a, vs, rfl, h1, h2⟩ := id rx
      obtain ⟨b, us, rfl, h3, h4⟩ := id ry
      by_cases h : xs.length + ys.length ≤ sizeLine
      · rw [if_pos h] at q'
        refine .inr (.inr (.inl ⟨a, b, vs, us, rfl, rfl, h1.sq, h3.sq, by rw [h2.length, h4.length]; exact h, fun e => ?_, fun _ e => ?_, fun _ _ => fin_tup M (h2.append h4) q'⟩))
        · have e2 : xs = [] := List.length_eq_zero_iff.mp (by rw [← h2.length, e]; rfl)
          subst e2
          exact fin_now (α := D) q' M _ ry
        · have e2 : ys = [] := List.length_eq_zero_iff.mp (by rw [← h4.length, e]; rfl)
          subst e2
          rw [List.append_nil] at q'
          exact fin_now (α := D) q' M _ rx
      · rw [if_neg h] at q'
        exact q'.elim
    | _ => exact q.elim
  | ref l =>
    cases e with
    | ref k =>
      obtain ⟨_, rfl⟩ := rx
      obtain ⟨_, rfl⟩ := ry
      cases e1 : m[l]? with
      | none => simp only [opAdd, e1] at q; exact q.elim
      | some o =>
        cases e2 : m[k]? with
        | none => simp only [opAdd, e1, e2] at q; cases o <;> exact q.elim
        | some u =>
          simp only [opAdd, e1, e2] at q
          cases o with
          | lst xs =>
            cases u with
            | lst ys =>
              by_cases h : xs.length + ys.length ≤ sizeLine
              · simp only [h, if_true] at q
                obtain ⟨vs, h1, h2⟩ := M.obj l _ e1
                obtain ⟨us, h3, h4⟩ := M.obj k _ e2
                exact .inr (.inr (.inr ⟨ι l, ι k, vs, us, rfl, rfl, h1, h3, by rw [h2.length, h4.length]; exact h, fin_lst M (h2.append h4) q⟩))
              · simp only [h, if_false] at q
                exact q.elim
            | _ => exact q.elim
          | _ => exact q.elim
    | _ => exact q.elim
  | _ => exact q.elim
theorem de_add {a b : Expr} {fa fb : DF} {pos : Pos} (ha : DE X W a fa) (hb : DE X W b fb) : DE X W (.BinOp a .Add b pos) (dBin opAdd fa fb) := de_op op_addA dop_add ha hb
/-- -n -/
def opNeg : O1 := fun d m => match d with
  | .int i => .ok (.int (-i)) m
  | _ => .stk
theorem de_neg {a : Expr} {fa : DF} {pos : Pos} (ha : DE X W a fa) : DE X W (.UnaryOp .USub a pos) (dUn opNeg fa) := de_un un_neg (fun σ ι m H x d Q M rx q => by
  cases d with
  | int i => exact ⟨i, rx, fin_now (α := D) q M _ rfl⟩
  | _ => exact q.elim) ha

/-! ### comparisons -/
def opLt : O2 := fun d e m => match d, e with
  | .int i, .int j => .ok (.bl (decide (i < j))) m
  | .str a, .str b => .ok (.bl (decide (a.cps.toList < b.cps.toList))) m
  | _, _ => .stk
theorem dop_lt : DOp K w mg W (fun x y H Q => rI0 (fun i j => .bl (decide (i < j))) x y H Q ∨ ∃ i j, x = .str i ∧ y = .str j ∧ Q (.bl (decide (i.cps.toList < j.cps.toList))) H) opLt := fun σ ι m H x y d e Q M rx ry q => by
  cases d with
  | int i =>
    cases e with
    | int j => exact .inl ⟨i, j, rx, ry, fin_now (α := D) q M _ rfl⟩
    | _ => exact q.elim
  | str i =>
    cases e with
    | str j => exact .inr ⟨i, j, rx, ry, fin_now (α := D) q M _ rfl⟩
    | _ => exact q.elim
  | _ => exact q.elim
abbrev opLe : O2 := opCmpI fun i j => decide (i ≤ j)
abbrev opGt : O2 := opCmpI fun i j => decide (j < i)
abbrev opGe : O2 := opCmpI fun i j => decide (j ≤ i)
theorem op_ltA : OpR X (compareOp .Lt) (fun x y H Q => rI0 (fun i j => .bl (decide (i < j))) x y H Q ∨ ∃ i j, x = .str i ∧ y = .str j ∧ Q (.bl (decide (i.cps.toList < j.cps.toList))) H) := op_lt.or op_lt_str
/-- None or not -/
def opIsN : O2 := fun d e m => match e with
  | .non => .ok (.bl (decide (d = .non))) m
  | _ => .stk
def opNotN : O2 := fun d e m => match e with
  | .non => .ok (.bl (!decide (d = .non))) m
  | _ => .stk
theorem rep_non {ι : Nat → Addr} {n : Nat} {H : Hp} {d : D} {v : V} (r : Rep K ι n H d v) : decide (v = .non) = decide (d = .non) := by
  cases d with
  | non => obtain rfl : v = .non := r; rfl
  | bl b => obtain rfl : v = .bl b := r; rfl
  | int b => obtain rfl : v = .int b := r; rfl
  | str b => obtain rfl : v = .str b := r; rfl
  | tup ds => obtain ⟨a, vs, rfl, _⟩ := r; rfl
  | ref l => obtain ⟨_, rfl⟩ := r; rfl
theorem dop_isN : DOp K w mg W (fun x y H Q => y = .non ∧ Q (.bl (decide (x = .non))) H) opIsN := fun σ ι m H x y d e Q M rx ry q => by
  cases e with
  | non => exact ⟨ry, by rw [rep_non rx]; exact fin_now (α := D) q M _ rfl⟩
  | _ => exact q.elim
theorem dop_notN : DOp K w mg W (fun x y H Q => y = .non ∧ Q (.bl (!decide (x = .non))) H) opNotN := fun σ ι m H x y d e Q M rx ry q => by
  cases e with
  | non => exact ⟨ry, by rw [rep_non rx]; exact fin_now (α := D) q M _ rfl⟩
  | _ => exact q.elim
mutual
def D.py : D → Option PyData
  | .non => some .none
  | .bl b => some (.bool b)
  | .int i => some (.int i)
  | .str x => some (.str x)
  | .tup xs => (D.pys xs).map .tuple
  | .ref _ => none
def D.pys : List D → Option (List PyData)
  | [] => some []
  | d :: ds => match D.py d, D.pys ds with
    | some k, some ks => some (k :: ks)
    | _, _ => none
end
def pyM (m : Mem) (d : D) : Option PyData := match seqOf m d with
  | some xs => (D.pys xs).map .list
  | none => d.py
section
variable {ι : Nat → Addr} {n : Nat} {H : Hp}
mutual
theorem py_dp : ∀ (d : D) (p : PyData) (v : V), d.py = some p → Rep K ι n H d v → Dp K H v p
  | .non, _, _, h, r => by cases h; obtain rfl := r; exact .non
  | .bl b, _, _, h, r => by cases h; obtain rfl := r; exact .bl b
  | .int b, _, _, h, r => by cases h; obtain rfl := r; exact .int b
  | .str b, _, _, h, r => by cases h; obtain rfl := r; exact .str b
  | .ref _, _, _, h, _ => by cases h
  | .tup ds, p, _, h, r => by
    obtain ⟨a, vs, rfl, h1, h2⟩ := r
    unfold D.py at h
    cases e : D.pys ds with
    | none => rw [e] at h; cases h
    | some ps =>
      rw [e] at h
      cases h
      exact .tup h1.sq (pys_dp ds ps vs e h2)
theorem pys_dp : ∀ (ds : List D) (ps : List PyData) (vs : List V), D.pys ds = some ps → Reps K ι n H ds vs → DpAll K H vs ps
  | [], _, _, h, r => by cases h; obtain rfl := r; exact .nil
  | d :: ds, ps, _, h, r => by
    obtain ⟨v, u, rfl, h1, h2⟩ := r
    unfold D.pys at h
    cases e : d.py with
    | none => rw [e] at h; cases h
    | some k =>
      rw [e] at h
      cases e2 : D.pys ds with
      | none => rw [e2] at h; cases h
      | some ks =>
        rw [e2] at h
        cases h
        exact .cons (py_dp d k v e h1) (pys_dp ds ks u e2 h2)
end
theorem pyM_dp {m : Mem} (M : RelM K w ι m H) {d : D} {p : PyData} {v : V} (h : pyM m d = some p) (r : Rep K ι m.length H d v) : Dp K H v p := by
  unfold pyM at h
  cases e : seqOf m d with
  | none => rw [e] at h; exact py_dp d p v h r
  | some xs =>
    rw [e] at h
    obtain ⟨a, vs, rfl, h1, h2⟩ := seqOf_sq M e r
    cases e2 : D.pys xs with
    | none => simp only [e2] at h; cases h
    | some ps =>
      simp only [e2] at h
      cases h
      exact .lst h1 (pys_dp xs ps vs e2 h2)
end
def opEqB (neg : Bool) : O2 := fun d e m => match pyM m d, pyM m e with
  | some a, some b => if SeqAt.shaped a && SeqAt.shaped b then .ok (.bl (PyData.eqv a b != neg)) m else .stk
  | _, _ => .stk
abbrev opEq : O2 := opEqB false
abbrev opNe : O2 := opEqB true
theorem dop_eqB {neg : Bool} {r : R2} (hr : ∀ x y H Q, (∃ d e, Dp K H x d ∧ Dp K H y e ∧ SeqAt.shaped d = true ∧ SeqAt.shaped e = true ∧ Q (.bl (PyData.eqv d e != neg)) H) → r x y H Q) : DOp K w mg W r (opEqB neg) := fun σ ι m H x y d e Q M rx ry q => by
  refine hr x y H Q ?_
  cases e1 : pyM m d with
  | none => simp only [opEqB, e1] at q; exact q.elim
  | some a =>
    cases e2 : pyM m e with
    | none => simp only [opEqB, e1, e2] at q; exact q.elim
    | some b =>
      simp only [opEqB, e1, e2] at q
      cases h : (SeqAt.shaped a && SeqAt.shaped b) with
      | false => simp only [h] at q; exact q.elim
      | true =>
        simp only [h, if_true] at q
        have h' := Bool.and_eq_true_iff.mp h
        exact ⟨a, b, pyM_dp M e1 rx, pyM_dp M e2 ry, h'.1, h'.2, fin_now (α := D) q M _ rfl⟩
theorem dop_eq : DOp K w mg W (rEqD K) opEq := dop_eqB fun x y H Q ⟨d, e, h1, h2, h3, h4, q⟩ => ⟨d, e, h1, h2, h3, h4, by simpa using q⟩
theorem dop_ne : DOp K w mg W (rNeD K) opNe := dop_eqB fun x y H Q ⟨d, e, h1, h2, h3, h4, q⟩ => ⟨d, e, h1, h2, h3, h4, by simpa using q⟩

/-! ### subscripts -/
def opIx : O2 := fun d e m => match e with
  | .int i => match d with
    | .tup xs => match atI xs i with
      | some x => .ok x m
      | none => .stk
    | .str z => if z.length ≤ sizeLine then (match atI z.cps.toList i with
      | some c => .ok (.str ⟨#[c]⟩) m
      | none => .stk) else .stk
    | .ref l => match seqOf m (.ref l) with
      | some xs => match atI xs i with
        | some x => .ok x m
        | none => .stk
      | none => .stk
    | _ => .stk
  | _ => .stk
theorem Reps.at {ι : Nat → Addr} {n : Nat} {H : Hp} {xs : List D} {vs : List V} {i : Int} {x : D} (r : Reps K ι n H xs vs) (h : atI xs i = some x) : ∃ v, atI vs i = some v ∧ Rep K ι n H x v := by
  unfold atI at h ⊢
  rw [r.length]
  cases e : ixN xs.length i with
  | none => rw [e] at h; cases h
  | some j =>
    rw [e] at h
    exact r.get h
theorem dop_ix : DOp K w mg W (rIx K) opIx := fun σ ι m H x y d e Q M rx ry q => by
  cases e with
  | int i =>
    cases d with
    | tup xs =>
      obtain ⟨a, vs, rfl, h1, h2⟩ := id rx
      cases e1 : atI xs i with
      | none => simp only [opIx, e1] at q; exact q.elim
      | some z =>
        simp only [opIx, e1] at q
        obtain ⟨v, h3, h4⟩ := h2.at e1
        exact .inr (.inl ⟨a, vs, i, v, rfl, ry, h1.sq, h3, fin_now (α := D) q M _ h4⟩)
    | str z =>
      by_cases hz : z.length ≤ sizeLine
      · cases e1 : atI z.cps.toList i with
        | none => simp only [opIx, hz, if_true, e1] at q; exact q.elim
        | some c =>
          simp only [opIx, hz, if_true, e1] at q
          exact .inr (.inr ⟨z, i, c, rx, ry, hz, e1, fin_now (α := D) q M _ rfl⟩)
      · simp only [opIx, hz, if_false] at q
        exact q.elim
    | ref l =>
      cases e1 : seqOf m (.ref l) with
      | none => simp only [opIx, e1] at q; exact q.elim
      | some xs =>
        cases e2 : atI xs i with
        | none => simp only [opIx, e1, e2] at q; exact q.elim
        | some z =>
          simp only [opIx, e1, e2] at q
          obtain ⟨a, vs, rfl, h1, h2⟩ := seqOf_sq M e1 rx
          obtain ⟨v, h3, h4⟩ := h2.at e2
          exact .inl ⟨a, vs, i, v, rfl, ry, h1, h3, fin_now (α := D) q M _ h4⟩
    | _ => exact q.elim
  | _ => exact q.elim
/-- slices -/
def cutD (xs : List D) (lo hi : Option Int) : List D := (xs.drop (HT.sIx xs.length 0 lo)).take (HT.sIx xs.length xs.length hi - HT.sIx xs.length 0 lo)
abbrev OSl := D → Option Int → Option Int → Mem → R D
def opSl : OSl := fun d lo hi m => match d with
  | .tup xs => .ok (.tup (cutD xs lo hi)) m
  | .str z => if z.length ≤ sizeLine then .ok (.str (cutS z lo hi)) m else .stk
  | .ref l => match seqOf m (.ref l) with
    | some xs => .ok (.ref m.length) (m ++ [.lst (cutD xs lo hi)])
    | none => .stk
  | _ => .stk
abbrev DPt := En → Mem → R (Option Int)
def dNoPt : DPt := fun _ m => .ok none m
def dPt (f : DF) : DPt := fun ρ m => (f ρ m).bind fun d m1 => match d with
  | .int i => .ok (some i) m1
  | _ => .stk
def rdO (K : PySem.W.Frag) (w : World) (mg : Str → Option Value) (W : WX) (f : DPt) : TO := fun σ H Q => ∃ ι ρ m, RelE K ι m.length H ρ σ ∧ RelM K w ι m H ∧ fin K w mg W σ ι m.length H (fun _ _ H' o => Q o H') (f ρ m)
def DO (X : Cx) (W : WX) (e : Option Expr) (f : DPt) : Prop := PO X e (rdO X.K X.w X.mg W f)
theorem po_imp {e : Option Expr} {t t' : TO} (h : PO X e t) (i : ∀ σ H Q, t' σ H Q → t σ H Q) : PO X e t' := ⟨fun pins s σ H Q I hq => h.run pins s σ H Q I (i σ H Q hq)⟩
theorem do_none : DO X W none dNoPt := po_imp po_none fun σ H Q h => by
  obtain ⟨ι, ρ, m, e, M, q⟩ := h
  exact q ι H (Step.refl _ _ _) M
theorem do_some {e : Expr} {f : DF} (h : DE X W e f) : DO X W (some e) (dPt f) := po_imp (po_some h) fun σ H Q h => by
  obtain ⟨ι, ρ, m, e, M, q⟩ := h
  refine ⟨ι, ρ, m, e, M, fin_then q fun ι1 m1 H1 d S1 M1 q1 v rv => ?_⟩
  cases d with
  | int i => exact ⟨i, rv, q1 ι1 H1 (Step.refl _ _ _) M1⟩
  | _ => exact q1.elim
def dSl (op : OSl) (f : DF) (l u : DPt) : DF := fun ρ m => (f ρ m).bind fun d m1 => (l ρ m1).bind fun lo m2 => (u ρ m2).bind fun hi m3 => op d lo hi m3
def rSlAll (K : PySem.W.Frag) : V → Option Int → Option Int → Hp → VK → Prop := fun x lo hi H Q => rSlA K x lo hi H Q ∨ rSlS x lo hi H Q ∨ rSlL K x lo hi H Q
theorem sl_all : SlR X (rSlAll X.K) := sl_tupA.or (sl_str.or sl_list)
theorem Reps.cut {ι : Nat → Addr} {n : Nat} {H : Hp} {xs : List D} {vs : List V} (r : Reps K ι n H xs vs) (lo hi : Option Int) : Reps K ι n H (cutD xs lo hi) (cutV vs lo hi) := by
  unfold cutD cutV
  rw [r.length]
  exact (r.drop _).take _
theorem sl_ok {σ : L2.St} {ι : Nat → Addr} {m : Mem} {H : Hp} {x : V} {d : D} {lo hi : Option Int} {Q : VK} (M : RelM K w ι m H) (rx : Rep K ι m.length H d x) (q : fin K w mg W σ ι m.length H (pV K Q) (opSl d lo hi m)) : rSlAll K x lo hi H Q := by
  cases d with
  | tup xs =>
    obtain ⟨a, vs, rfl, h1, h2⟩ := id rx
    refine .inl ⟨a, vs, rfl, h1.sq, fun hw => ?_, fun _ => fin_tup M (h2.cut lo hi) q⟩
    have e : cutD xs lo hi = xs := by
      unfold cutD
      rw [← h2.length, hw.1, hw.2]
      simp [h2.length]
    have q' : fin K w mg W σ ι m.length H (pV K Q) (.ok (.tup (cutD xs lo hi)) m) := q
    rw [e] at q'
    exact fin_now (α := D) q' M _ rx
  | str z =>
    by_cases hz : z.length ≤ sizeLine
    · simp only [opSl, hz, if_true] at q
      exact .inr (.inl ⟨z, rx, hz, fin_now (α := D) q M _ rfl⟩)
    · simp only [opSl, hz, if_false] at q
      exact q.elim
  | ref l =>
    cases e1 : seqOf m (.ref l) with
    | none => simp only [opSl, e1] at q; exact q.elim
    | some xs =>
      simp only [opSl, e1] at q
      obtain ⟨a, vs, rfl, h1, h2⟩ := seqOf_sq M e1 rx
      exact .inr (.inr ⟨a, vs, rfl, h1, fin_lst M (h2.cut lo hi) q⟩)
  | _ => exact q.elim
theorem de_slice {e : Expr} {lo hi : Option Expr} {f : DF} {l u : DPt} {p2 pos : Pos} (he : DE X W e f) (hl : DO X W lo l) (hu : DO X W hi u) : DE X W (.Subscript e (.Slice lo hi none p2) pos) (dSl opSl f l u) := pe_imp (pe_slice sl_all he hl hu) fun σ H Q h => by
  obtain ⟨ι, ρ, m, e, M, q⟩ := h
  refine ⟨ι, ρ, m, e, M, fin_then q fun ι1 m1 H1 d S1 M1 q1 v rv => ?_⟩
  refine ⟨ι1, ρ, m1, e.step S1, M1, fin_then q1 fun ι2 m2 H2 lo S2 M2 q2 => ?_⟩
  refine ⟨ι2, ρ, m2, (e.step S1).step S2, M2, fin_then q2 fun ι3 m3 H3 hi S3 M3 q3 => ?_⟩
  exact sl_ok M3 (rv.step (S2.trans S3)) q3
/-- o[i] = e of a list -/
def opSet : O3 := fun o i v m => match o, i with
  | .ref l, .int k => match m[l]? with
    | some (.lst xs) => match ixN xs.length k with
      | some j => .ok () (m.set l (.lst (xs.set j v)))
      | none => .stk
    | _ => .stk
  | _, _ => .stk
theorem dset_list : DSetR K w mg W rSetL opSet := fun σ ι m H o i v do_ di dv Q M ro ri rv q => by
  cases do_ with
  | ref l =>
    cases di with
    | int k =>
      obtain ⟨_, rfl⟩ := ro
      cases e1 : m[l]? with
      | none => simp only [opSet, e1] at q; exact q.elim
      | some ob =>
        cases ob with
        | lst xs =>
          cases e2 : ixN xs.length k with
          | none => simp only [opSet, e1, e2] at q; exact q.elim
          | some j =>
            simp only [opSet, e1, e2] at q
            obtain ⟨vs, h1, h2⟩ := M.obj l _ e1
            have S := Step.wr (ho := .lst (vs.set j v)) M e1 rfl
            refine ⟨ι l, vs, k, j, rfl, ri, h1, by rw [h2.length]; exact e2, q ι _ (by rw [List.length_set]; exact S) (M.wr e1 rfl rfl ⟨_, upd_same, ?_⟩)⟩
            exact Reps.set (rv.step S) j (Reps.step S _ _ h2)
        | _ => simp only [opSet, e1] at q; exact q.elim
    | _ => exact q.elim
  | _ => exact q.elim

/-! ### built-in calls -/
def fn1 (o : O1) : ON := fun ds m => match ds with
  | [d] => o d m
  | _ => .stk
theorem reps1 {ι : Nat → Addr} {n : Nat} {H : Hp} {d : D} {xs : List V} (r : Reps K ι n H [d] xs) : ∃ x, xs = [x] ∧ Rep K ι n H d x := by
  obtain ⟨v, u, rfl, h1, h2⟩ := r
  obtain rfl : u = [] := h2
  exact ⟨v, rfl, h1⟩
theorem reps2 {ι : Nat → Addr} {n : Nat} {H : Hp} {d e : D} {xs : List V} (r : Reps K ι n H [d, e] xs) : ∃ x y, xs = [x, y] ∧ Rep K ι n H d x ∧ Rep K ι n H e y := by
  obtain ⟨v, u, rfl, h1, h2⟩ := r
  obtain ⟨y, rfl, h3⟩ := reps1 h2
  exact ⟨v, y, rfl, h1, h3⟩
theorem dca1 {r : List V → Hp → VK → Prop} {o : O1} (h : ∀ (σ : L2.St) (ι : Nat → Addr) (m : Mem) (H : Hp) (x : V) (d : D) (Q : VK), RelM K w ι m H → Rep K ι m.length H d x → fin K w mg W σ ι m.length H (pV K Q) (o d m) → r [x] H Q) : DCa K w mg W r (fn1 o) :=
  fun σ ι m H xs ds Q M rs q => by
  match ds, rs, q with
  | [], _, q => exact q.elim
  | [d], rs, q =>
    obtain ⟨x, rfl, h1⟩ := reps1 rs
    exact h σ ι m H x d Q M h1 q
  | _ :: _ :: _, _, q => exact q.elim
/-- len -/
def opLen : O1 := fun d m => match d with
  | .str z => if z.length ≤ sizeLine then .ok (.int z.length) m else .stk
  | .tup xs => .ok (.int xs.length) m
  | .ref l => match seqOf m (.ref l) with
    | some xs => .ok (.int xs.length) m
    | none => .stk
  | _ => .stk
theorem dca_len : DCa K w mg W (fun xs H Q => ∃ x n, xs = [x] ∧ LenV K x H n ∧ Q (.int n) H) (fn1 opLen) := dca1 fun σ ι m H x d Q M rx q => by
  cases d with
  | str z =>
    by_cases hz : z.length ≤ sizeLine
    · simp only [opLen, hz, if_true] at q
      obtain rfl : x = .str z := rx
      exact ⟨_, z.length, rfl, ⟨hz, rfl⟩, fin_now (α := D) q M _ rfl⟩
    · simp only [opLen, hz, if_false] at q
      exact q.elim
  | tup xs =>
    obtain ⟨a, vs, rfl, h1, h2⟩ := id rx
    refine ⟨_, vs.length, rfl, .inr ⟨vs, h1.sq, rfl⟩, ?_⟩
    rw [h2.length]
    exact fin_now (α := D) q M _ rfl
  | ref l =>
    cases e1 : seqOf m (.ref l) with
    | none => simp only [opLen, e1] at q; exact q.elim
    | some xs =>
      simp only [opLen, e1] at q
      obtain ⟨a, vs, rfl, h1, h2⟩ := seqOf_sq M e1 rx
      refine ⟨_, vs.length, rfl, .inl ⟨vs, h1, rfl⟩, ?_⟩
      rw [h2.length]
      exact fin_now (α := D) q M _ rfl
  | _ => exact q.elim
def opAbs : O1 := fun d m => match d with
  | .int i => .ok (.int (if i < 0 then -i else i)) m
  | _ => .stk
theorem dca_abs : DCa K w mg W (fun xs H Q => ∃ i, xs = [.int i] ∧ Q (.int (if i < 0 then -i else i)) H) (fn1 opAbs) := dca1 fun σ ι m H x d Q M rx q => by
  cases d with
  | int i => obtain rfl : x = .int i := rx; exact ⟨i, rfl, fin_now (α := D) q M _ rfl⟩
  | _ => exact q.elim
/-- int of an int, a bool -/
def opIntOf : O1 := fun d m => match d with
  | .int i => .ok (.int i) m
  | .bl b => .ok (.int (if b then 1 else 0)) m
  | _ => .stk
theorem dca_int : DCa K w mg W (fun xs H Q => (∃ i, xs = [.int i] ∧ Q (.int i) H) ∨ ∃ k, xs = [.bl k] ∧ Q (.int (if k then 1 else 0)) H) (fn1 opIntOf) := dca1 fun σ ι m H x d Q M rx q => by
  cases d with
  | int i => obtain rfl : x = .int i := rx; exact .inl ⟨i, rfl, fin_now (α := D) q M _ rfl⟩
  | bl i => obtain rfl : x = .bl i := rx; exact .inr ⟨i, rfl, fin_now (α := D) q M _ rfl⟩
  | _ => exact q.elim
def opStr : O1 := fun d m => match d with
  | .int i => if i.natAbs.log2 < 1920 then .ok (.str (toString i)) m else .stk
  | _ => .stk
theorem dca_str : DCa K w mg W (fun xs H Q => ∃ i : Int, xs = [.int i] ∧ i.natAbs.log2 < 1920 ∧ Q (.str (toString i)) H) (fn1 opStr) := dca1 fun σ ι m H x d Q M rx q => by
  cases d with
  | int i =>
    obtain rfl : x = .int i := rx
    by_cases h : i.natAbs.log2 < 1920
    · simp only [opStr, h, if_true] at q
      exact ⟨i, rfl, h, fin_now (α := D) q M _ rfl⟩
    · simp only [opStr, h, if_false] at q
      exact q.elim
  | _ => exact q.elim
/-- list(x), tuple(x) of lists and tuples -/
def opList : O1 := fun d m => match d with
  | .tup xs => .ok (.ref m.length) (m ++ [.lst xs])
  | .ref l => match seqOf m (.ref l) with
    | some xs => .ok (.ref m.length) (m ++ [.lst xs])
    | none => .stk
  | _ => .stk
theorem dca_list : DCa K w mg W (fun xs H Q => ∃ p ys, xs = [.ref p] ∧ (SqL K H p ys ∨ SqT K H p ys) ∧ ∀ l, H l = none → Q (.ref l) (upd H l (.lst ys))) (fn1 opList) := dca1 fun σ ι m H x d Q M rx q => by
  cases d with
  | tup xs =>
    obtain ⟨a, vs, rfl, h1, h2⟩ := id rx
    exact ⟨a, vs, rfl, .inr h1.sq, fin_lst M h2 q⟩
  | ref l =>
    cases e1 : seqOf m (.ref l) with
    | none => simp only [opList, e1] at q; exact q.elim
    | some xs =>
      simp only [opList, e1] at q
      obtain ⟨a, vs, rfl, h1, h2⟩ := seqOf_sq M e1 rx
      exact ⟨a, vs, rfl, .inl h1, fin_lst M h2 q⟩
  | _ => exact q.elim
def opTuple : O1 := fun d m => match d with
  | .tup xs => .ok (.tup xs) m
  | .ref l => match seqOf m (.ref l) with
    | some xs => .ok (.tup xs) m
    | none => .stk
  | _ => .stk
theorem dca_tuple : DCa K w mg W (fun xs H Q => ∃ p ys, xs = [.ref p] ∧ ((SqL K H p ys ∧ ∀ l, H l = none → Q (.ref l) (upd H l (.tup ys))) ∨ (SqT K H p ys ∧ Q (.ref p) H))) (fn1 opTuple) := dca1 fun σ ι m H x d Q M rx q => by
  cases d with
  | tup xs =>
    obtain ⟨a, vs, rfl, h1, h2⟩ := id rx
    exact ⟨a, vs, rfl, .inr ⟨h1.sq, fin_now (α := D) q M _ rx⟩⟩
  | ref l =>
    cases e1 : seqOf m (.ref l) with
    | none => simp only [opTuple, e1] at q; exact q.elim
    | some xs =>
      simp only [opTuple, e1] at q
      obtain ⟨a, vs, rfl, h1, h2⟩ := seqOf_sq M e1 rx
      exact ⟨a, vs, rfl, .inl ⟨h1, fin_tup M h2 q⟩⟩
  | _ => exact q.elim
/-- any, all of a list of bools -/
def blsOf : List D → Option (List Bool)
  | [] => some []
  | .bl b :: ds => (blsOf ds).map (b :: ·)
  | _ :: _ => none
theorem bls_of {ι : Nat → Addr} {n : Nat} {H : Hp} : ∀ {ds : List D} {bs : List Bool} {vs : List V}, blsOf ds = some bs → Reps K ι n H ds vs → vs = bs.map V.bl
  | [], _, _, h, r => by cases h; exact r
  | .bl b :: ds, _, _, h, r => by
    obtain ⟨v, u, rfl, h1, h2⟩ := r
    unfold blsOf at h
    cases e : blsOf ds with
    | none => rw [e] at h; cases h
    | some cs =>
      rw [e] at h
      cases h
      rw [bls_of e h2, show v = V.bl b from h1]
      rfl
  | .non :: _, _, _, h, _ => by cases h
  | .int _ :: _, _, _, h, _ => by cases h
  | .str _ :: _, _, _, h, _ => by cases h
  | .tup _ :: _, _, _, h, _ => by cases h
  | .ref _ :: _, _, _, h, _ => by cases h
def opBls (g : List Bool → Bool) : O1 := fun d m => match seqOf m d with
  | some xs => match blsOf xs with
    | some bs => .ok (.bl (g bs)) m
    | none => .stk
  | none => .stk
theorem dca_bls {g : List Bool → Bool} : DCa K w mg W (fun vs H Q => ∃ (a : Addr) (bs : List Bool), vs = [V.ref a] ∧ SqL K H a (bs.map V.bl) ∧ Q (.bl (g bs)) H) (fn1 (opBls g)) := dca1 fun σ ι m H x d Q M rx q => by
  unfold opBls at q
  cases e1 : seqOf m d with
  | none => rw [e1] at q; exact q.elim
  | some xs =>
    rw [e1] at q
    cases e2 : blsOf xs with
    | none => simp only [e2] at q; exact q.elim
    | some bs =>
      simp only [e2] at q
      obtain ⟨a, vs, rfl, h1, h2⟩ := seqOf_sq M e1 rx
      rw [bls_of e2 h2] at h1
      exact ⟨a, bs, rfl, h1, fin_now (α := D) q M _ rfl⟩

/-! ### methods of lists -/
def DMt (K : PySem.W.Frag) (w : World) (mg : Str → Option Value) (W : WX) (T : String) (r : V → List V → Hp → VK → Prop) (o : D → List D → Mem → R D) : Prop :=
  ∀ (σ : L2.St) (ι : Nat → Addr) (m : Mem) (H : Hp) (x : V) (xs : List V) (d : D) (ds : List D) (Q : VK), RelM K w ι m H → Rep K ι m.length H d x → Reps K ι m.length H ds xs → fin K w mg W σ ι m.length H (pV K Q) (o d ds m) → r x xs H Q
def DTy (K : PySem.W.Frag) (w : World) (T : String) (c : D → Mem → Bool) : Prop := ∀ (ι : Nat → Addr) (m : Mem) (H : Hp) (x : V) (d : D), RelM K w ι m H → Rep K ι m.length H d x → c d m = true → tyV K T x H
def dMt (c : D → Mem → Bool) (o : D → List D → Mem → R D) (f : DF) (fs : DFs) : DF := fun ρ m => (f ρ m).bind fun d m1 => if c d m1 = true then (fs ρ m1).bind fun ds m2 => o d ds m2 else .stk
def dMt0 (c : D → Mem → Bool) (o : D → List D → Mem → R D) (f : DF) : DF := fun ρ m => (f ρ m).bind fun d m1 => if c d m1 = true then o d [] m1 else .stk
def isLst (d : D) (m : Mem) : Bool := match d with
  | .ref l => match m[l]? with
    | some (.lst _) => true
    | _ => false
  | _ => false
def isStr (d : D) (_ : Mem) : Bool := match d with
  | .str _ => true
  | _ => false
theorem ty_lst : DTy K w "list" isLst := fun ι m H x d M rx h => by
  cases d with
  | ref l =>
    obtain ⟨_, rfl⟩ := rx
    unfold isLst at h
    cases e : m[l]? with
    | none => simp only [e] at h; cases h
    | some o =>
      simp only [e] at h
      cases o with
      | lst xs =>
        obtain ⟨vs, h1, _⟩ := M.obj l _ e
        exact .inl ⟨rfl, _, .inl (.inl h1)⟩
      | _ => cases h
  | _ => cases h
theorem rd_mt {T : String} {r : V → List V → Hp → VK → Prop} {c : D → Mem → Bool} {o : D → List D → Mem → R D} {f : DF} {fs : DFs} {σ : L2.St} {H : Hp} {Q : VK} (ht : DTy K w T c) (hd : DMt K w mg W T r o) (h : rdE K w mg W (dMt c o f fs) σ H Q) :
    tBM K T r (rdE K w mg W f) (rdA K w mg W fs) σ H Q := by
  obtain ⟨ι, ρ, m, e, M, q⟩ := h
  refine ⟨ι, ρ, m, e, M, fin_then q fun ι1 m1 H1 d S1 M1 q1 v rv => ?_⟩
  cases hc : c d m1 with
  | false => simp only [hc] at q1; exact q1.elim
  | true =>
    simp only [hc, if_true] at q1
    refine ⟨ht ι1 m1 H1 v d M1 rv hc, ι1, ρ, m1, e.step S1, M1, fin_then q1 fun ι2 m2 H2 ds S2 M2 q2 vs rvs => ?_⟩
    exact hd σ ι2 m2 H2 v vs d ds Q M2 (rv.step S2) rvs q2
theorem rd_mt0 {T : String} {r : V → List V → Hp → VK → Prop} {c : D → Mem → Bool} {o : D → List D → Mem → R D} {f : DF} {σ : L2.St} {H : Hp} {Q : VK} (ht : DTy K w T c) (hd : DMt K w mg W T r o) (h : rdE K w mg W (dMt0 c o f) σ H Q) :
    tBM0 K T r (rdE K w mg W f) σ H Q := by
  obtain ⟨ι, ρ, m, e, M, q⟩ := h
  refine ⟨ι, ρ, m, e, M, fin_then q fun ι1 m1 H1 d S1 M1 q1 v rv => ?_⟩
  cases hc : c d m1 with
  | false => simp only [hc] at q1; exact q1.elim
  | true =>
    simp only [hc, if_true] at q1
    exact ⟨ht ι1 m1 H1 v d M1 rv hc, hd σ ι1 m1 H1 v [] d [] Q M1 rv Reps.nil q1⟩
/-- xs.append(y) -/
def mAppend : D → List D → Mem → R D := fun d ds m => match d, ds with
  | .ref l, [y] => match m[l]? with
    | some (.lst xs) => if xs.length < sizeLine then .ok .non (m.set l (.lst (xs ++ [y]))) else .stk
    | _ => .stk
  | _, _ => .stk
theorem dmt_append : DMt K w mg W "list" rAppend mAppend := fun σ ι m H x xs d ds Q M rx rs q => by
  cases d with
  | ref l =>
    match ds, rs, q with
    | [], _, q => exact q.elim
    | _ :: _ :: _, _, q => exact q.elim
    | [y], rs, q =>
      obtain ⟨v, rfl, rv⟩ := reps1 rs
      obtain ⟨_, rfl⟩ := rx
      cases e : m[l]? with
      | none => simp only [mAppend, e] at q; exact q.elim
      | some o =>
        cases o with
        | lst ys =>
          by_cases hz : ys.length < sizeLine
          · simp only [mAppend, e, hz, if_true] at q
            obtain ⟨vs, h1, h2, h3, h4⟩ := rel_app M e rv
            exact ⟨ι l, vs, v, rfl, rfl, h1, by omega, q ι _ h3 h4 _ rfl⟩
          · simp only [mAppend, e, hz, if_false] at q
            exact q.elim
        | _ => simp only [mAppend, e] at q; exact q.elim
  | _ => exact q.elim
/-- xs.extend(ys) of lists -/
def mExtend : D → List D → Mem → R D := fun d ds m => match d, ds with
  | .ref l, [y] => match y with
    | .ref k => match m[l]?, m[k]? with
      | some (.lst xs), some (.lst ys) => if xs.length + ys.length ≤ sizeLine then .ok .non (m.set l (.lst (xs ++ ys))) else .stk
      | _, _ => .stk
    | _ => .stk
  | _, _ => .stk
theorem dmt_extend : DMt K w mg W "list" rExtend mExtend := fun σ ι m H x xs d ds Q M rx rs q => by
  cases d with
  | ref l =>
    match ds, rs, q with
    | [], _, q => exact q.elim
    | _ :: _ :: _, _, q => exact q.elim
    | [y], rs, q =>
      obtain ⟨v, rfl, rv⟩ := reps1 rs
      obtain ⟨_, rfl⟩ := rx
      cases y with
      | ref k =>
        obtain ⟨_, rfl⟩ := rv
        cases e : m[l]? with
        | none => simp only [mExtend, e] at q; exact q.elim
        | some o =>
          cases e2 : m[k]? with
          | none => simp only [mExtend, e, e2] at q; cases o <;> exact q.elim
          | some u =>
            cases o with
            | lst ys =>
              cases u with
              | lst zs =>
                by_cases hz : ys.length + zs.length ≤ sizeLine
                · simp only [mExtend, e, e2, hz, if_true] at q
                  obtain ⟨vs, h1, h2⟩ := M.obj l _ e
                  obtain ⟨us, h3, h4⟩ := M.obj k _ e2
                  have S := Step.wr (ho := .lst (vs ++ us)) M e rfl
                  refine ⟨ι l, ι k, vs, us, rfl, rfl, h1, h3, by rw [h2.length, h4.length]; exact hz, q ι _ (by rw [List.length_set]; exact S) (M.wr e rfl rfl ⟨_, upd_same, ?_⟩) _ rfl⟩
                  exact (Reps.step S _ _ h2).append (Reps.step S _ _ h4)
                · simp only [mExtend, e, e2, hz, if_false] at q
                  exact q.elim
              | _ => simp only [mExtend, e, e2] at q; exact q.elim
            | _ => simp only [mExtend, e, e2] at q; exact q.elim
      | _ => exact q.elim
  | _ => exact q.elim
/-- xs.pop(), xs.pop(i) -/
def mPop : D → List D → Mem → R D := fun d ds m => match d, ds with
  | .ref l, [] => match m[l]? with
    | some (.lst xs) => match xs[xs.length - 1]? with
      | some y => .ok y (m.set l (.lst xs.dropLast))
      | none => .stk
    | _ => .stk
  | _, _ => .stk
theorem dmt_pop : DMt K w mg W "list" rPop mPop := fun σ ι m H x xs d ds Q M rx rs q => by
  cases d with
  | ref l =>
    match ds, rs, q with
    | _ :: _, _, q => exact q.elim
    | [], rs, q =>
      obtain rfl : xs = [] := rs
      obtain ⟨_, rfl⟩ := rx
      cases e : m[l]? with
      | none => simp only [mPop, e] at q; exact q.elim
      | some o =>
        cases o with
        | lst ys =>
          cases e2 : ys[ys.length - 1]? with
          | none => simp only [mPop, e, e2] at q; exact q.elim
          | some y =>
            simp only [mPop, e, e2] at q
            obtain ⟨vs, h1, h2⟩ := M.obj l _ e
            obtain ⟨v, h3, h4⟩ := h2.get e2
            have S := Step.wr (ho := .lst vs.dropLast) M e rfl
            exact ⟨ι l, vs, v, rfl, rfl, h1, by rw [h2.length]; exact h3, q ι _ (by rw [List.length_set]; exact S) (M.wr e rfl rfl ⟨_, upd_same, Reps.dropLast (Reps.step S _ _ h2)⟩) _ (by rw [List.length_set]; exact h4.step S)⟩
        | _ => simp only [mPop, e] at q; exact q.elim
  | _ => exact q.elim
def mPopAt : D → List D → Mem → R D := fun d ds m => match d, ds with
  | .ref l, [z] => match z with
    | .int i => match m[l]? with
      | some (.lst xs) => if 0 ≤ i ∧ i < xs.length ∧ i < 2 ^ 62 then (match xs[i.toNat]? with
        | some y => .ok y (m.set l (.lst (xs.eraseIdx i.toNat)))
        | none => .stk) else .stk
      | _ => .stk
    | _ => .stk
  | _, _ => .stk
theorem dmt_popAt : DMt K w mg W "list" rPopAt mPopAt := fun σ ι m H x xs d ds Q M rx rs q => by
  cases d with
  | ref l =>
    match ds, rs, q with
    | [], _, q => exact q.elim
    | _ :: _ :: _, _, q => exact q.elim
    | [y], rs, q =>
      obtain ⟨v, rfl, rv⟩ := reps1 rs
      obtain ⟨_, rfl⟩ := rx
      cases y with
      | int i =>
        cases e : m[l]? with
        | none => simp only [mPopAt, e] at q; exact q.elim
        | some o =>
          cases o with
          | lst ys =>
            by_cases hi : 0 ≤ i ∧ i < ys.length ∧ i < 2 ^ 62
            · cases e2 : ys[i.toNat]? with
              | none => simp only [mPopAt, e, hi, and_self, if_true, e2] at q; exact q.elim
              | some y =>
                have q' : fin K w mg W σ ι m.length H (pV K Q) (.ok y (m.set l (.lst (ys.eraseIdx i.toNat)))) := by
                  simp only [mPopAt, e] at q
                  rw [if_pos hi] at q
                  simp only [e2] at q
                  exact q
                obtain ⟨vs, h1, h2⟩ := M.obj l _ e
                obtain ⟨v, h3, h4⟩ := h2.get e2
                have S := Step.wr (ho := .lst (vs.eraseIdx i.toNat)) M e rfl
                refine ⟨ι l, vs, i, i.toNat, v, rfl, by rw [show _ = V.int i from rv], h1, by omega, by omega, ?_, h3, q' ι _ (by rw [List.length_set]; exact S) (M.wr e rfl rfl ⟨_, upd_same, Reps.eraseIdx _ (Reps.step S _ _ h2)⟩) _ (by rw [List.length_set]; exact h4.step S)⟩
                have hn : ixN vs.length i = some i.toNat := by
                  unfold ixN
                  rw [if_pos hi.1, if_pos (by rw [h2.length]; exact hi.2.1)]
                exact (ixN_seq hn).1
            · simp only [mPopAt, e] at q
              rw [if_neg hi] at q
              exact q.elim
          | _ => simp only [mPopAt, e] at q; exact q.elim
      | _ => exact q.elim
  | _ => exact q.elim
end
end DL
/-! The D layer: what is walked; isinstance; truth; in; turned lists; greatest, least. -/
namespace DL
open PySem PySem.Spec L2 RT RZ

section
variable {X : Cx} {K : PySem.W.Frag} {w : World} {mg : Str → Option Value} {W : WX} {ι : Nat → Addr} {n : Nat} {H : Hp}

/-! ### sources -/
/-- an iterator that gives the items of a list -/
theorem itR_list {m : Mem} (M : RelM K w ι m H) {l : Nat} {xs : List D} {o : MO} (h : m[l]? = some o) (ho : o = .lst xs ∨ o = .frl xs) (hJ : It) (eJ : hJ = Itl K (ι l)) : ItR K w ι m.length H hJ ⟨xs, some (l, o)⟩ := by
  subst eJ
  have look : ∀ {ι1 : Nat → Addr} {m1 : Mem} {H1 : Hp}, Step ι m.length H ι1 m1.length H1 → RelM K w ι1 m1 H1 → (Src.mk xs (some (l, o))).ok m1 = true → ∃ vs, SqL K H1 (ι l) vs ∧ Reps K ι1 m1.length H1 xs vs := fun {ι1 m1 H1} S M1 hok => by
    have e : m1[l]? = some o := of_decide_eq_true hok
    rw [← S.ext l (lt_of_get h)]
    rcases ho with rfl | rfl
    · exact list_of M1 (.inl e)
    · exact list_of M1 (.inr e)
  refine ⟨fun ι1 m1 H1 i d S M1 hok hd => ?_, fun ι1 m1 H1 i d x H' S M1 hok hd hy => ?_, fun ι1 m1 H1 S M1 hok => ?_⟩
  · obtain ⟨vs, h1, h2⟩ := look S M1 hok
    obtain ⟨v, h3, _⟩ := h2.get hd
    exact ⟨vs, v, h1, h3⟩
  · obtain ⟨vs, h1, h2⟩ := look S M1 hok
    obtain ⟨rfl, h3⟩ := hy
    obtain ⟨v, h4, h5⟩ := h2.get hd
    have e := h3 vs h1
    rw [h4] at e
    cases e
    exact ⟨Step.refl _ _ _, M1, h5⟩
  · obtain ⟨vs, h1, h2⟩ := look S M1 hok
    exact ⟨vs, h1, by rw [h2.length]; exact Nat.le_refl _⟩
theorem itR_tup {m : Mem} {a : Addr} {vs : List V} {xs : List D} (ht : TupAt K H a vs) (r : Reps K ι m.length H xs vs) (inj : ∀ H1 us, TupAt K H1 a vs → SqT K H1 a us → us = vs) : ItR K w ι m.length H (Itt K a) ⟨xs, none⟩ := by
  refine ⟨fun ι1 m1 H1 i d S M1 hok hd => ?_, fun ι1 m1 H1 i d x H' S M1 hok hd hy => ?_, fun ι1 m1 H1 S M1 hok => ?_⟩
  · obtain ⟨v, h3, _⟩ := r.get hd
    exact ⟨vs, v, (ht.step S).sq, h3⟩
  · obtain ⟨rfl, h3⟩ := hy
    obtain ⟨v, h4, h5⟩ := r.get hd
    have e := h3 vs (ht.step S).sq
    rw [h4] at e
    cases e
    exact ⟨Step.refl _ _ _, M1, h5.step S⟩
  · exact ⟨vs, (ht.step S).sq, by rw [r.length]; exact Nat.le_refl _⟩
/-- .. without asking that the tuple is one alone -/
theorem itR_tup' {m : Mem} {a : Addr} {vs : List V} {xs : List D} (ht : TupAt K H a vs) (r : Reps K ι m.length H xs vs) : ItR K w ι m.length H (Itt K a) ⟨xs, none⟩ := by
  refine ⟨fun ι1 m1 H1 i d S M1 hok hd => ?_, fun ι1 m1 H1 i d x H' S M1 hok hd hy => ?_, fun ι1 m1 H1 S M1 hok => ?_⟩
  · obtain ⟨v, h3, _⟩ := r.get hd
    exact ⟨vs, v, (ht.step S).sq, h3⟩
  · obtain ⟨rfl, h3⟩ := hy
    obtain ⟨v, h4, h5⟩ := r.get hd
    have e := h3 vs (ht.step S).sq
    rw [h4] at e
    cases e
    exact ⟨Step.refl _ _ _, M1, h5.step S⟩
  · exact ⟨vs, (ht.step S).sq, by rw [r.length]; exact Nat.le_refl _⟩
def signsD (z : Str) : List D := z.cps.toList.map fun c => .str ⟨#[c]⟩
/-- the items of a list, a tuple, a text -/
def srcOf : D → Mem → R Src := fun d m => match d with
  | .tup xs => .ok ⟨xs, none⟩ m
  | .str z => .ok ⟨signsD z, none⟩ m
  | .ref l => match m[l]? with
    | some (.lst xs) => .ok ⟨xs, some (l, .lst xs)⟩ m
    | some (.frl xs) => .ok ⟨xs, some (l, .frl xs)⟩ m
    | _ => .stk
  | _ => .stk
def dIt (f : DF) : DFi := fun ρ m => (f ρ m).bind srcOf
theorem itR_str {m : Mem} (z : Str) : ItR K w ι m.length H (Its z) ⟨signsD z, none⟩ := by
  have hl : (signsD z).length = z.cps.size := by simp [signsD]
  refine ⟨fun ι1 m1 H1 i d S M1 hok hd => ?_, fun ι1 m1 H1 i d x H' S M1 hok hd hy => ?_, fun ι1 m1 H1 S M1 hok => ?_⟩
  · have h := lt_of_get hd
    show i < z.cps.size
    rw [← hl]; exact h
  · obtain ⟨rfl, c, h3, rfl⟩ := hy
    have e : (signsD z)[i]? = some (.str ⟨#[c]⟩) := by
      unfold signsD
      rw [List.getElem?_map, Array.getElem?_toList, h3]
      rfl
    have e2 : (Src.mk (signsD z) none).items[i]? = (signsD z)[i]? := rfl
    rw [e2, e] at hd
    cases hd
    exact ⟨Step.refl _ _ _, M1, rfl⟩
  · show z.cps.size ≤ (signsD z).length
    rw [hl]; exact Nat.le_refl _
/-- what a walk of a value asks -/
def iAny (K : PySem.W.Frag) (tl : TE) : TI := fun σ H R => tl σ H fun x H1 => (∃ a, x = .ref a ∧ (∃ xs, SqL K H1 a xs) ∧ R (Itl K a) H1) ∨ (∃ a, x = .ref a ∧ (∃ xs, SqT K H1 a xs) ∧ R (Itt K a) H1) ∨ ∃ z, x = .str z ∧ R (Its z) H1
theorem pi_any {tg l : Expr} {tl : TE} (hl : PE X l tl) : PI X tg l (iAny X.K tl) := by
  refine ⟨fun pins s σ H R I h => thn (hl.run pins s σ H _ I h) fun v s1 ⟨x, H1, I1, r1, q1⟩ => ?_⟩
  have one : ∀ b, b ∈ [s1.heap.objs.size] → FpOk X pins H1 b := fun b hb => by
    rw [List.mem_singleton.mp hb]
    exact I1.fpOk (Nat.le_refl _) (I1.hok.fresh (Nat.le_refl _))
  rcases q1 with ⟨a, rfl, ⟨xs, hq⟩, q⟩ | ⟨a, rfl, ⟨xs, hq⟩, q⟩ | ⟨z, rfl, q⟩
  · cases r1
    obtain ⟨its, rv, p, hz⟩ := I1.list hq
    exact wpAny_pyIter_list p.isList ⟨_, _, _, _, H1, rfl, I1.kept (t' := s1.toks) fun b o e => Heap.get?_push_of_some _ e, turn_list a _, ⟨_, Heap.get?_push_size _ rfl, rfl, rfl⟩, one, q⟩
  · cases r1
    obtain ⟨its, rv, p, hz⟩ := I1.tuple hq
    exact wpAny_pyIter_tuple (show s1.heap.IsTuple a its.toArray from p) ⟨_, _, _, _, H1, rfl, I1.kept (t' := s1.toks) fun b o e => Heap.get?_push_of_some _ e, turn_tuple a _, ⟨_, Heap.get?_push_size _ rfl, rfl, rfl⟩, one, q⟩
  · obtain ⟨t, rfl⟩ := r1
    cases ha : z.cps.all (· < 128) with
    | false => exact wpAny_pyIter_wide ha (pi_one (tk := s1.toks) I1 _ (turn_str _ z t "str_iterator" (.inr rfl)) ⟨_, Heap.get?_push_size _ rfl, rfl, rfl⟩ q)
    | true => exact wpAny_pyIter_ascii ha (pi_one (tk := s1.toks) I1 _ (turn_str _ z t "str_ascii_iterator" (.inl rfl)) ⟨_, Heap.get?_push_size _ rfl, rfl, rfl⟩ q)
theorem fin_src {m : Mem} {σ : L2.St} {post : (Nat → Addr) → Mem → Hp → Src → Prop} {d : D} {s : Src} {m' : Mem} (e : srcOf d m = .ok s m') (h : fin K w mg W σ ι m.length H post (srcOf d m)) (M : RelM K w ι m H) (hm : m' = m) : post ι m H s := by
  rw [e, hm] at h
  exact h ι H (Step.refl _ _ _) M
theorem di_any {tg l : Expr} {f : DF} (hl : DE X W l f) : DI X W tg l (dIt f) := pi_imp (pi_any hl) fun σ H Q h => by
  obtain ⟨ι, ρ, m, e, M, q⟩ := h
  refine ⟨ι, ρ, m, e, M, fin_then q fun ι1 m1 H1 d S1 M1 q1 v rv => ?_⟩
  cases d with
  | tup xs =>
    obtain ⟨a, vs, rfl, h1, h2⟩ := rv
    exact .inr (.inl ⟨a, rfl, ⟨vs, h1.sq⟩, fin_src (m' := m1) rfl q1 M1 rfl _ (itR_tup' h1 h2)⟩)
  | str z => exact .inr (.inr ⟨z, rv, fin_src (m' := m1) rfl q1 M1 rfl _ (itR_str z)⟩)
  | ref l =>
    obtain ⟨_, rfl⟩ := rv
    cases e1 : m1[l]? with
    | none => simp only [srcOf, e1] at q1; exact q1.elim
    | some o =>
      cases o with
      | lst xs =>
        obtain ⟨vs, h1, h2⟩ := list_of M1 (.inl e1)
        exact .inl ⟨_, rfl, ⟨vs, h1⟩, fin_src (m' := m1) (by simp only [srcOf, e1]) q1 M1 rfl _ (itR_list M1 e1 (.inl rfl) _ rfl)⟩
      | frl xs =>
        obtain ⟨vs, h1, h2⟩ := list_of M1 (.inr e1)
        exact .inl ⟨_, rfl, ⟨vs, h1⟩, fin_src (m' := m1) (by simp only [srcOf, e1]) q1 M1 rfl _ (itR_list M1 e1 (.inr rfl) _ rfl)⟩
      | dct _ => simp only [srcOf, e1] at q1; exact q1.elim
      | stt _ => simp only [srcOf, e1] at q1; exact q1.elim
  | _ => exact q1.elim
/-- numbers -/
def rngD (lo c : Int) (k : Nat) : List D := (List.range k).map fun i => .int (lo + (i : Nat) * c)
theorem rngD_get {lo c : Int} {k i : Nat} {d : D} (h : (rngD lo c k)[i]? = some d) : i < k ∧ d = .int (lo + (i : Nat) * c) := by
  have hl := lt_of_get h
  have hk : i < k := by simpa [rngD] using hl
  unfold rngD at h
  rw [List.getElem?_map, List.getElem?_range hk] at h
  cases h
  exact ⟨hk, rfl⟩
theorem itR_rng {m : Mem} (lo : Int) (k : Nat) : ItR K w ι m.length H (Itr lo k) ⟨rngD lo 1 k, none⟩ := by
  refine ⟨fun ι1 m1 H1 i d S M1 hok hd => (rngD_get hd).1, fun ι1 m1 H1 i d x H' S M1 hok hd hy => ?_, fun ι1 m1 H1 S M1 hok => ?_⟩
  · obtain ⟨rfl, rfl⟩ := hy
    obtain ⟨_, rfl⟩ := rngD_get hd
    exact ⟨Step.refl _ _ _, M1, by rw [Int.mul_one]; rfl⟩
  · show k ≤ (rngD lo 1 k).length
    simp [rngD]
theorem itR_rngC {m : Mem} (lo c : Int) (k : Nat) : ItR K w ι m.length H (Itc lo c k) ⟨rngD lo c k, none⟩ := by
  refine ⟨fun ι1 m1 H1 i d S M1 hok hd => (rngD_get hd).1, fun ι1 m1 H1 i d x H' S M1 hok hd hy => ?_, fun ι1 m1 H1 S M1 hok => ?_⟩
  · obtain ⟨rfl, rfl⟩ := hy
    obtain ⟨_, rfl⟩ := rngD_get hd
    exact ⟨Step.refl _ _ _, M1, rfl⟩
  · show k ≤ (rngD lo c k).length
    simp [rngD]
def smallI (i : Int) : Bool := decide (-(2 ^ 62) ≤ i ∧ i < 2 ^ 62)
theorem smallI_of {i : Int} (h : smallI i = true) : -(2 ^ 62) ≤ i ∧ i < 2 ^ 62 := of_decide_eq_true h
def D.intOf : D → Option Int
  | .int i => some i
  | _ => none
def intsOf : List D → Option (List Int)
  | [] => some []
  | d :: ds => match d.intOf, intsOf ds with
    | some i, some is => some (i :: is)
    | _, _ => none
theorem intOf_rep {d : D} {i : Int} {v : V} (h : d.intOf = some i) (r : Rep K ι n H d v) : v = .int i := by
  cases d with
  | int j => cases h; exact r
  | _ => cases h
theorem ints_of : ∀ {ds : List D} {ns : List Int} {vs : List V}, intsOf ds = some ns → Reps K ι n H ds vs → vs = ns.map V.int
  | [], _, _, h, r => by cases h; exact r
  | d :: ds, _, _, h, r => by
    obtain ⟨v, u, rfl, h1, h2⟩ := r
    unfold intsOf at h
    cases e : d.intOf with
    | none => simp only [e] at h; cases h
    | some i =>
      cases e2 : intsOf ds with
      | none => simp only [e, e2] at h; cases h
      | some is =>
        simp only [e, e2] at h
        cases h
        rw [ints_of e2 h2, intOf_rep e h1]
        rfl
/-- range(j), range(i, j), range(i, j, -1) -/
def dRange1 (f : DF) : DFi := fun ρ m => (f ρ m).bind fun d m1 => match d.intOf with
  | some j => if smallI j = true then .ok ⟨rngD 0 1 j.toNat, none⟩ m1 else .stk
  | none => .stk
def dRange2 (f g : DF) : DFi := fun ρ m => (f ρ m).bind fun d m1 => (g ρ m1).bind fun e m2 => match d.intOf, e.intOf with
  | some i, some j => if smallI i = true ∧ smallI j = true then .ok ⟨rngD i 1 (j - i).toNat, none⟩ m2 else .stk
  | _, _ => .stk
def dRangeD (f g h : DF) : DFi := fun ρ m => (f ρ m).bind fun d m1 => (g ρ m1).bind fun e m2 => (h ρ m2).bind fun c m3 => match d.intOf, e.intOf, c.intOf with
  | some i, some j, some c => if c = -1 ∧ smallI i = true ∧ smallI j = true then .ok ⟨rngD i (-1) (i - j).toNat, none⟩ m3 else .stk
  | _, _, _ => .stk
variable {a b c : Expr} {f g h : DF} {p pos : Pos}
theorem di_range1 {tg : Expr} (hg : Gl X "range") (hm : X.mg "range" = none) (ha : DE X W a f) (na : starEach [a] X.env = (false, eval a X.env) :: starEach [] X.env := by rfl) (hs : starEach [a] X.env = [(false, eval a X.env)] := by rfl) : DI X W tg (.Call (.Name "range" p) [a] [] pos) (dRange1 f) :=
  pi_imp (pi_range1 (ta := tCons (rdE X.K X.w X.mg W f) tNil) hg hm (pa_cons ha pa_nil na) hs) fun σ H Q h => by
  obtain ⟨ι, ρ, m, e, M, q⟩ := h
  refine ⟨ι, ρ, m, e, M, fin_then q fun ι1 m1 H1 d S1 M1 q1 v rv => ?_⟩
  cases e1 : d.intOf with
  | none => simp only [e1] at q1; exact q1.elim
  | some j =>
    simp only [e1] at q1
    by_cases hj : smallI j = true
    · simp only [hj, if_true] at q1
      exact ⟨j, by rw [intOf_rep e1 rv], (smallI_of hj).1, (smallI_of hj).2, fin_now (α := Src) q1 M1 _ (itR_rng 0 _)⟩
    · simp only [hj] at q1
      exact q1.elim
theorem di_range2 {tg : Expr} (hg : Gl X "range") (hm : X.mg "range" = none) (ha : DE X W a f) (hb : DE X W b g) (nb : starEach [b] X.env = (false, eval b X.env) :: starEach [] X.env := by rfl) (na : starEach [a, b] X.env = (false, eval a X.env) :: starEach [b] X.env := by rfl)
    (hs : starEach [a, b] X.env = [(false, eval a X.env), (false, eval b X.env)] := by rfl) (hs2 : starEach [b] X.env = [(false, eval b X.env)] := by rfl) : DI X W tg (.Call (.Name "range" p) [a, b] [] pos) (dRange2 f g) :=
  pi_imp (pi_range2 (ta := tCons (rdE X.K X.w X.mg W f) (tCons (rdE X.K X.w X.mg W g) tNil)) hg hm (pa_cons ha (pa_cons hb pa_nil nb) na) hs hs2) fun σ H Q h => by
  obtain ⟨ι, ρ, m, e, M, q⟩ := h
  refine ⟨ι, ρ, m, e, M, fin_then q fun ι1 m1 H1 d S1 M1 q1 v rv => ⟨ι1, ρ, m1, e.step S1, M1, fin_then q1 fun ι2 m2 H2 d2 S2 M2 q2 v2 rv2 => ?_⟩⟩
  cases e1 : d.intOf with
  | none => simp only [e1] at q2; exact q2.elim
  | some i =>
    cases e2 : d2.intOf with
    | none => simp only [e1, e2] at q2; exact q2.elim
    | some j =>
      simp only [e1, e2] at q2
      by_cases hj : smallI i = true ∧ smallI j = true
      · rw [if_pos hj] at q2
        exact ⟨i, j, by rw [intOf_rep e1 rv, intOf_rep e2 rv2], ⟨(smallI_of hj.1).1, (smallI_of hj.1).2, (smallI_of hj.2).1, (smallI_of hj.2).2⟩, fin_now (α := Src) q2 M2 _ (itR_rng i _)⟩
      · rw [if_neg hj] at q2
        exact q2.elim
theorem di_rangeD {tg : Expr} (hg : Gl X "range") (hm : X.mg "range" = none) (ha : DE X W a f) (hb : DE X W b g) (hc : DE X W c h) (nc : starEach [c] X.env = (false, eval c X.env) :: starEach [] X.env := by rfl) (nb : starEach [b, c] X.env = (false, eval b X.env) :: starEach [c] X.env := by rfl)
    (na : starEach [a, b, c] X.env = (false, eval a X.env) :: starEach [b, c] X.env := by rfl) (hpl : (backTo pos (starEach [b, c] X.env)).any (·.1) = false := by rfl) : DI X W tg (.Call (.Name "range" p) [a, b, c] [] pos) (dRangeD f g h) :=
  pi_imp (pi_range3 (ta := tCons (rdE X.K X.w X.mg W f) (tCons (rdE X.K X.w X.mg W g) (tCons (rdE X.K X.w X.mg W h) tNil))) hg hm (pa_cons ha (pa_cons hb (pa_cons hc pa_nil nc) nb) na) na hpl) fun σ H Q h => by
  obtain ⟨ι, ρ, m, e, M, q⟩ := h
  refine ⟨ι, ρ, m, e, M, fin_then q fun ι1 m1 H1 d S1 M1 q1 v rv => ⟨ι1, ρ, m1, e.step S1, M1, fin_then q1 fun ι2 m2 H2 d2 S2 M2 q2 v2 rv2 => ⟨ι2, ρ, m2, (e.step S1).step S2, M2, fin_then q2 fun ι3 m3 H3 d3 S3 M3 q3 v3 rv3 => ?_⟩⟩⟩
  cases e1 : d.intOf with
  | none => simp only [e1] at q3; exact q3.elim
  | some i =>
    cases e2 : d2.intOf with
    | none => simp only [e1, e2] at q3; exact q3.elim
    | some j =>
      cases e3 : d3.intOf with
      | none => simp only [e1, e2, e3] at q3; exact q3.elim
      | some c =>
        simp only [e1, e2, e3] at q3
        by_cases hj : c = -1 ∧ smallI i = true ∧ smallI j = true
        · rw [if_pos hj] at q3
          obtain ⟨rfl, h1, h2⟩ := hj
          exact ⟨i, j, -1, _, by rw [intOf_rep e1 rv, intOf_rep e2 rv2, intOf_rep e3 rv3], RgC.neg (smallI_of h1).1 (smallI_of h1).2 (smallI_of h2).1 (smallI_of h2).2, fin_now (α := Src) q3 M3 _ (itR_rngC i (-1) _)⟩
        · rw [if_neg hj] at q3
          exact q3.elim
/-- enumerate(list) -/
def enumD (xs : List D) : List D := (List.range xs.length).map fun i => .tup [.int (i : Nat), xs.getD i .non]
def dEnum (f : DF) : DFi := fun ρ m => (f ρ m).bind fun d m1 => match d with
  | .ref l => match m1[l]? with
    | some (.lst xs) => .ok ⟨enumD xs, some (l, .lst xs)⟩ m1
    | _ => .stk
  | _ => .stk
theorem enumD_get {xs : List D} {i : Nat} {d : D} (h : (enumD xs)[i]? = some d) : ∃ x, xs[i]? = some x ∧ d = .tup [.int (i : Nat), x] := by
  have hl := lt_of_get h
  have hk : i < xs.length := by simpa [enumD] using hl
  unfold enumD at h
  rw [List.getElem?_map, List.getElem?_range hk] at h
  cases h
  exact ⟨xs[i], List.getElem?_eq_getElem hk, by show D.tup [D.int (i : Nat), xs.getD i .non] = _; rw [List.getD_eq_getElem?_getD, List.getElem?_eq_getElem hk]; rfl⟩
/-- a new pair -/
theorem new_pair {m1 : Mem} {ι1 : Nat → Addr} {H1 : Hp} {T : Addr} {x y : V} {d e : D} (M1 : RelM K w ι1 m1 H1) (hT : H1 T = none) (r : Rep K ι1 m1.length H1 d x) (s : Rep K ι1 m1.length H1 e y) :
    Step ι1 m1.length H1 ι1 m1.length (upd H1 T (.tup [x, y])) ∧ RelM K w ι1 m1 (upd H1 T (.tup [x, y])) ∧ Rep K ι1 m1.length (upd H1 T (.tup [x, y])) (.tup [d, e]) (.ref T) :=
  ⟨Step.tup hT, M1.fresh hT, T, [x, y], rfl, .inl upd_same, Reps.cons (r.step (Step.tup hT)) (Reps.cons (s.step (Step.tup hT)) Reps.nil)⟩
theorem di_enum {e : Expr} {f : DF} {p pos tpos : Pos} {elts : List Expr} {kk : Nat} (hg : Gl X "enumerate") (hm : X.mg "enumerate" = none) (he : DE X W e f) (ha0 : starEach (e :: []) X.env = (false, eval e X.env) :: starEach [] X.env := by rfl) (hs : starEach [e] X.env = [(false, eval e X.env)] := by rfl) :
    DI X W (.Tuple elts kk tpos) (.Call (.Name "enumerate" p) [e] [] pos) (dEnum f) := pi_imp (pi_enum (ta := tCons (rdE X.K X.w X.mg W f) tNil) hg hm (pa_cons he pa_nil ha0) hs) fun σ H Q h => by
  obtain ⟨ι, ρ, m, e, M, q⟩ := h
  refine ⟨ι, ρ, m, e, M, fin_then q fun ι1 m1 H1 d S1 M1 q1 v rv => ?_⟩
  cases d with
  | ref l =>
    obtain ⟨_, rfl⟩ := rv
    cases e1 : m1[l]? with
    | none => simp only [e1] at q1; exact q1.elim
    | some o =>
      cases o with
      | lst xs =>
        simp only [e1] at q1
        obtain ⟨vs, h1, h2⟩ := list_of M1 (.inl e1)
        refine ⟨_, vs, rfl, h1, fin_now (α := Src) q1 M1 _ ?_⟩
        have look : ∀ {ι2 : Nat → Addr} {m2 : Mem} {H2 : Hp}, Step ι1 m1.length H1 ι2 m2.length H2 → RelM X.K X.w ι2 m2 H2 → (Src.mk (enumD xs) (some (l, .lst xs))).ok m2 = true → ∃ vs, SqL X.K H2 (ι1 l) vs ∧ Reps X.K ι2 m2.length H2 xs vs := fun {ι2 m2 H2} S M2 hok => by
          have e : m2[l]? = some (.lst xs) := of_decide_eq_true hok
          rw [← S.ext l (lt_of_get e1)]
          exact list_of M2 (.inl e)
        refine ⟨fun ι2 m2 H2 i d S M2 hok hd => ?_, fun ι2 m2 H2 i d x H' S M2 hok hd hy => ?_, fun ι2 m2 H2 S M2 hok => ?_⟩
        · obtain ⟨vs, h1, h2⟩ := look S M2 hok
          obtain ⟨x, hx, rfl⟩ := enumD_get hd
          obtain ⟨v, h3, _⟩ := h2.get hx
          exact ⟨vs, v, h1, h3⟩
        · obtain ⟨vs, h1, h2⟩ := look S M2 hok
          obtain ⟨z, hz, rfl⟩ := enumD_get hd
          obtain ⟨T, y, rfl, hT, rfl, h3⟩ := hy
          obtain ⟨v, h4, h5⟩ := h2.get hz
          have e := h3 vs h1
          rw [h4] at e
          cases e
          exact new_pair M2 hT (show Rep X.K ι2 m2.length H2 (.int (i : Nat)) (.int (i : Nat)) from rfl) h5
        · obtain ⟨vs, h1, h2⟩ := look S M2 hok
          refine ⟨vs, h1, ?_⟩
          have e : (enumD xs).length = xs.length := by simp [enumD]
          rw [h2.length]
          exact Nat.le_of_eq e.symm
      | frl _ => simp only [e1] at q1; exact q1.elim
      | dct _ => simp only [e1] at q1; exact q1.elim
      | stt _ => simp only [e1] at q1; exact q1.elim
  | _ => exact q1.elim
/-- zip of two lists, of two tuples -/
def zipD (xs ys : List D) : List D := (xs.zip ys).map fun p => .tup [p.1, p.2]
def lkOf (l : Nat) (xs : List D) (m : Mem) : Bool := decide (m[l]? = some (.lst xs))
/-- reversed(x) of a list, a tuple -/
def dRev (f : DF) : DFi := fun ρ m => (f ρ m).bind fun d m1 => match d with
  | .tup xs => .ok ⟨xs.reverse, none⟩ m1
  | .ref l => match m1[l]? with
    | some (.lst xs) => .ok ⟨xs.reverse, some (l, .lst xs)⟩ m1
    | some (.frl xs) => .ok ⟨xs.reverse, some (l, .frl xs)⟩ m1
    | _ => .stk
  | _ => .stk
theorem rev_get {α : Type} {xs : List α} {i : Nat} {x : α} (h : xs.reverse[i]? = some x) : i < xs.length ∧ xs[xs.length - 1 - i]? = some x := by
  have hl := lt_of_get h
  rw [List.length_reverse] at hl
  rw [List.getElem?_reverse hl] at h
  exact ⟨hl, h⟩
theorem di_rev {tg e : Expr} {f : DF} {p pos : Pos} (hg : Gl X "reversed") (hm : X.mg "reversed" = none) (he : DE X W e f) (hs : starEach [e] X.env = (false, eval e X.env) :: starEach [] X.env := by rfl) : DI X W tg (.Call (.Name "reversed" p) [e] [] pos) (dRev f) :=
  pi_imp (pi_revA hg hm he hs) fun σ H Q h => by
  obtain ⟨ι, ρ, m, e, M, q⟩ := h
  refine ⟨ι, ρ, m, e, M, fin_then q fun ι1 m1 H1 d S1 M1 q1 v rv => ?_⟩
  cases d with
  | tup xs =>
    obtain ⟨a, vs, rfl, h1, h2⟩ := rv
    refine ⟨a, vs, rfl, .inr ⟨h1.sq, fin_now (α := Src) q1 M1 _ ?_⟩⟩
    refine ⟨fun ι2 m2 H2 i d S M2 hok hd => ?_, fun ι2 m2 H2 i d x H' S M2 hok hd hy => ?_, fun ι2 m2 H2 S M2 hok => ?_⟩
    · obtain ⟨hl, hx⟩ := rev_get hd
      obtain ⟨u, h3, _⟩ := h2.get hx
      rw [← h2.length] at h3 hl
      exact ⟨hl, vs, u, (h1.step S).sq, h3⟩
    · obtain ⟨rfl, h3⟩ := hy
      obtain ⟨hl, hx⟩ := rev_get hd
      obtain ⟨u, h4, h5⟩ := h2.get hx
      have e := h3 vs (h1.step S).sq
      rw [h2.length, h4] at e
      cases e
      exact ⟨Step.refl _ _ _, M2, h5.step S⟩
    · show vs.length ≤ xs.reverse.length
      rw [List.length_reverse, h2.length]
      exact Nat.le_refl _
  | ref l =>
    obtain ⟨_, rfl⟩ := rv
    have go : ∀ {o : MO} {xs : List D}, m1[l]? = some o → (o = .lst xs ∨ o = .frl xs) → (∀ J, ItR X.K X.w ι1 m1.length H1 J ⟨xs.reverse, some (l, o)⟩ → Q J H1) → ∃ (a : Addr) (vs : List V), V.ref (ι1 l) = .ref a ∧ ((SqL X.K H1 a vs ∧ Q (Itv X.K a vs.length) H1) ∨ (SqT X.K H1 a vs ∧ Q (ItvT X.K a vs.length) H1)) := fun {o xs} e1 ho k => by
      have look : ∀ {ι2 : Nat → Addr} {m2 : Mem} {H2 : Hp}, Step ι1 m1.length H1 ι2 m2.length H2 → RelM X.K X.w ι2 m2 H2 → (Src.mk xs.reverse (some (l, o))).ok m2 = true → ∃ vs, SqL X.K H2 (ι1 l) vs ∧ Reps X.K ι2 m2.length H2 xs vs := fun {ι2 m2 H2} S M2 hok => by
        have e : m2[l]? = some o := of_decide_eq_true hok
        rw [← S.ext l (lt_of_get e1)]
        rcases ho with rfl | rfl
        · exact list_of M2 (.inl e)
        · exact list_of M2 (.inr e)
      obtain ⟨vs, h1, h2⟩ : ∃ vs, SqL X.K H1 (ι1 l) vs ∧ Reps X.K ι1 m1.length H1 xs vs := by
        rcases ho with rfl | rfl
        · exact list_of M1 (.inl e1)
        · exact list_of M1 (.inr e1)
      refine ⟨_, vs, rfl, .inl ⟨h1, k _ ?_⟩⟩
      refine ⟨fun ι2 m2 H2 i d S M2 hok hd => ?_, fun ι2 m2 H2 i d x H' S M2 hok hd hy => ?_, fun ι2 m2 H2 S M2 hok => ?_⟩
      · obtain ⟨us, h3, h4⟩ := look S M2 hok
        obtain ⟨hl, hx⟩ := rev_get hd
        obtain ⟨u, h5, _⟩ := h4.get hx
        rw [h2.length]
        exact ⟨hl, us, u, h3, h5⟩
      · obtain ⟨rfl, h3⟩ := hy
        obtain ⟨us, h6, h7⟩ := look S M2 hok
        obtain ⟨hl, hx⟩ := rev_get hd
        obtain ⟨u, h4, h5⟩ := h7.get hx
        have e := h3 us h6
        rw [h2.length, h4] at e
        cases e
        exact ⟨Step.refl _ _ _, M2, h5⟩
      · show vs.length ≤ xs.reverse.length
        rw [List.length_reverse, h2.length]
        exact Nat.le_refl _
    cases e1 : m1[l]? with
    | none => simp only [e1] at q1; exact q1.elim
    | some o =>
      cases o with
      | lst xs => simp only [e1] at q1; exact go e1 (.inl rfl) (fin_now (α := Src) q1 M1)
      | frl xs => simp only [e1] at q1; exact go e1 (.inr rfl) (fin_now (α := Src) q1 M1)
      | dct _ => simp only [e1] at q1; exact q1.elim
      | stt _ => simp only [e1] at q1; exact q1.elim
  | _ => exact q1.elim
/-- reversed(range(n)) -/
def dRevR (f : DF) : DFi := fun ρ m => (f ρ m).bind fun d m1 => match d with
  | .int j => if smallI j = true then .ok ⟨rngD ((j.toNat : Nat) - 1) (-1) j.toNat, none⟩ m1 else .stk
  | _ => .stk
theorem di_revR {tg a : Expr} {f : DF} {p p2 pos pos2 : Pos} (hg : Gl X "reversed") (hm : X.mg "reversed" = none) (hg2 : Gl X "range") (hm2 : X.mg "range" = none) (ha : DE X W a f) (na : starEach [a] X.env = (false, eval a X.env) :: starEach [] X.env := by rfl)
    (hs : starEach [(Expr.Call (.Name "range" p2) [a] [] pos2)] X.env = (false, eval (.Call (.Name "range" p2) [a] [] pos2) X.env) :: starEach [] X.env := by rfl) :
    DI X W tg (.Call (.Name "reversed" p) [.Call (.Name "range" p2) [a] [] pos2] [] pos) (dRevR f) := pi_imp (pi_revR (tr := tRg1 (rdE X.K X.w X.mg W f)) hg hm (prg_1 hg2 hm2 ha na) hs) fun σ H Q h => by
  obtain ⟨ι, ρ, m, e, M, q⟩ := h
  refine ⟨ι, ρ, m, e, M, fin_then q fun ι1 m1 H1 d S1 M1 q1 v rv => ?_⟩
  cases d with
  | int j =>
    have q2 : fin X.K X.w X.mg W σ ι1 m1.length H1 _ (if smallI j = true then R.ok (Src.mk (rngD ((j.toNat : Nat) - 1) (-1) j.toNat) none) m1 else R.stk) := q1
    by_cases hj : smallI j = true
    · rw [if_pos hj] at q2
      have hj2 : -(2 ^ 62) ≤ j ∧ j < 2 ^ 62 := of_decide_eq_true hj
      refine ⟨j, rv, by decide, by decide, hj2.1, hj2.2, fin_now (α := Src) q2 M1 _ ?_⟩
      have e0 : (0 : Int) + (((j - 0).toNat : Nat) : Int) - 1 = (j.toNat : Nat) - 1 := by rw [Int.sub_zero, Int.zero_add]
      rw [e0, Int.sub_zero]
      exact itR_rngC _ (-1) _
    · rw [if_neg hj] at q2
      exact q2.elim
  | _ => exact q1.elim

/-! ### isinstance -/
def tyD (m : Mem) : D → Option String
  | .non => some "NoneType"
  | .bl _ => some "bool"
  | .int _ => some "int"
  | .str _ => some "str"
  | .tup _ => some "tuple"
  | .ref l => match m[l]? with
    | some (.lst _) => some "list"
    | some (.frl _) => some "list"
    | _ => none
/-- a is b, or under it -/
def isiB (a b : String) : Bool := a == b || (a == "bool" && b == "int")
def isiTypes : List String := ["NoneType", "bool", "int", "str", "tuple", "list"]
def isiAsked : List String := ["bool", "int", "str", "tuple", "list", "dict"]
theorem isi_tab : (isiTypes.all fun a => isiAsked.all fun b => decide (kitB a b = some (isiB a b))) = true := by decide +kernel
def opIsi (T : String) : O1 := fun d m => match tyD m d with
  | some t => if isiTypes.contains t && isiAsked.contains T then .ok (.bl (isiB t T)) m else .stk
  | none => .stk
theorem ty_of {m : Mem} (M : RelM K w ι m H) {d : D} {v : V} {t : String} (r : Rep K ι m.length H d v) (h : tyD m d = some t) : TyX K H v (.type t) := by
  cases d with
  | non => cases h; obtain rfl : v = .non := r; exact .base .non
  | bl b => cases h; obtain rfl : v = .bl b := r; exact .base (.bl b)
  | int b => cases h; obtain rfl : v = .int b := r; exact .base (.int b)
  | str b => cases h; obtain rfl : v = .str b := r; exact .base (.str b)
  | tup ds =>
    cases h
    obtain ⟨a, vs, rfl, h1, _⟩ := r
    rcases h1 with h1 | ⟨o, its, k, h1, h2, _⟩
    · exact .base (.tup h1)
    · exact .kTuple h1 h2
  | ref l =>
    obtain ⟨_, rfl⟩ := r
    unfold tyD at h
    cases e : m[l]? with
    | none => simp only [e] at h; cases h
    | some o =>
      cases o with
      | lst xs =>
        simp only [e] at h; cases h
        obtain ⟨vs, h1, _⟩ := M.obj l _ e
        exact .base (.lst h1)
      | frl xs =>
        simp only [e] at h; cases h
        obtain ⟨vs, _, h1⟩ := M.obj l _ e
        rcases h1 with ⟨ob, h1⟩ | ⟨o, its, k, h1, h2, _⟩
        · exact .base (.frz h1)
        · exact .kList h1 h2
      | dct _ => simp only [e] at h; cases h
      | stt _ => simp only [e] at h; cases h
theorem de_isi {e : Expr} {f : DF} {T : String} {xT : Str} {p p2 pos : Pos} (hg : Gl X "isinstance") (hm : X.mg "isinstance" = none) (hg2 : Gl X xT) (hm2 : X.mg xT = none) (hv2 : bootBuiltins xT = some (.type T)) (he : DE X W e f)
    (hn : xT ≠ "__name__" := by decide) (hdb : (xT == ("__debug__" : Str)) = false := by decide)
    (hs1 : starEach [(Expr.Name xT p2)] X.env = (false, eval (.Name xT p2) X.env) :: starEach [] X.env := by rfl) (hs2 : starEach [e, (Expr.Name xT p2)] X.env = (false, eval e X.env) :: starEach [(Expr.Name xT p2)] X.env := by rfl)
    (hpl : (backTo pos (starEach [(Expr.Name xT p2)] X.env)).any (·.1) = false := by rfl) :
    DE X W (.Call (.Name "isinstance" p) [e, .Name xT p2] [] pos) (dUn (opIsi T) f) := pe_imp (pe_callB call_isi hg hm (by decide +kernel) (pa_cons he (pa_cons (pe_bltn (v := .ty T) hg2 hm2 hv2 rfl hn hdb) pa_nil hs1) hs2) (by decide) (by decide) hs2 hpl) fun σ H Q h => by
  obtain ⟨ι, ρ, m, e, M, q⟩ := h
  refine ⟨ι, ρ, m, e, M, fin_then q fun ι1 m1 H1 d S1 M1 q1 v rv => ?_⟩
  cases ht : tyD m1 d with
  | none => simp only [opIsi, ht] at q1; exact q1.elim
  | some t =>
    cases hc : (isiTypes.contains t && isiAsked.contains T) with
    | false => simp only [opIsi, ht, hc] at q1; exact q1.elim
    | true =>
      simp only [opIsi, ht, hc, if_true] at q1
      have hk : kitB t T = some (isiB t T) := by
        have h1 := List.all_eq_true.mp isi_tab t (by simpa using (Bool.and_eq_true_iff.mp hc).1)
        have h2 := List.all_eq_true.mp h1 T (by simpa using (Bool.and_eq_true_iff.mp hc).2)
        exact of_decide_eq_true h2
      exact ⟨_, _, _, _, _, rfl, .ty T, ty_of M1 rv ht, kit_ty hk, fin_now (α := D) q1 M1 _ rfl⟩
end
end DL
/-! The D layer: truth, in, turned lists, the greatest, dicts. -/
namespace DL
open PySem PySem.Spec L2

section
variable {X : Cx} {K : PySem.W.Frag} {w : World} {mg : Str → Option Value} {W : WX} {ι : Nat → Addr} {n : Nat} {H : Hp}

/-! ### dicts: what a key gives -/
/-- the value at a key -/
def lookD (kvs : List (D × D)) (k : D) : Option D := (kvs.find? fun p => decide (p.1 = k)).map (·.2)
def putD (kvs : List (D × D)) (k v : D) : List (D × D) := if (lookD kvs k).isSome = true then kvs.map (fun p => if p.1 = k then (p.1, v) else p) else kvs ++ [(k, v)]
mutual
/-- a key tells the data -/
theorem nk_inj : ∀ (a b : D) (k : NestedKey), a.nk = some k → b.nk = some k → a = b
  | .non, b, k, h, h' => by cases h; cases b <;> first | rfl | (simp [D.nk] at h') 
  | .int i, b, k, h, h' => by cases h; cases b <;> first | (simp only [D.nk, Option.some.injEq, NestedKey.num.injEq] at h'; rw [h']) | (simp [D.nk] at h')
  | .str i, b, k, h, h' => by cases h; cases b <;> first | (simp only [D.nk, Option.some.injEq, NestedKey.text.injEq] at h'; rw [h']) | (simp [D.nk] at h')
  | .bl _, _, _, h, _ => by cases h
  | .ref _, _, _, h, _ => by cases h
  | .tup xs, b, k, h, h' => by
    unfold D.nk at h
    cases e : D.nks xs with
    | none => simp only [e, Option.map_none] at h; cases h
    | some ks =>
      simp only [e, Option.map_some] at h
      cases h
      cases b with
      | tup ys =>
        unfold D.nk at h'
        cases e2 : D.nks ys with
        | none => simp only [e2, Option.map_none] at h'; cases h'
        | some js =>
          simp only [e2, Option.map_some, Option.some.injEq, NestedKey.tup.injEq] at h'
          subst h'
          rw [nks_inj xs ys js e e2]
      | _ => simp [D.nk] at h'
theorem nks_inj : ∀ (as bs : List D) (ks : List NestedKey), D.nks as = some ks → D.nks bs = some ks → as = bs
  | [], bs, ks, h, h' => by
    cases h
    cases bs with
    | nil => rfl
    | cons b bs =>
      unfold D.nks at h'
      cases e : b.nk with
      | none => simp only [e] at h'; cases h'
      | some k =>
        cases e2 : D.nks bs with
        | none => simp only [e, e2] at h'; cases h'
        | some js => simp only [e, e2] at h'; cases h'
  | a :: as, bs, ks, h, h' => by
    unfold D.nks at h
    cases e : a.nk with
    | none => simp only [e] at h; cases h
    | some k =>
      cases e2 : D.nks as with
      | none => simp only [e, e2] at h; cases h
      | some js =>
        simp only [e, e2] at h
        cases h
        cases bs with
        | nil => cases h'
        | cons b bs =>
          unfold D.nks at h'
          cases e3 : b.nk with
          | none => simp only [e3] at h'; cases h'
          | some k' =>
            cases e4 : D.nks bs with
            | none => simp only [e3, e4] at h'; cases h'
            | some js' =>
              simp only [e3, e4, Option.some.injEq, List.cons.injEq] at h'
              obtain ⟨rfl, rfl⟩ := h'
              rw [nk_inj a b k' e e3, nks_inj as bs js' e2 e4]
end
theorem key_inj {a b : D} {k : Key} (h : a.key = some k) (h' : b.key = some k) : a = b := by
  cases a with
  | int i => cases h; cases b <;> first | (simp only [D.key, Option.some.injEq, Sum.inl.injEq] at h'; rw [h']) | (simp [D.key] at h')
  | str i => cases h; cases b <;> first | (simp only [D.key, Option.some.injEq, Sum.inr.injEq] at h'; rw [h']) | (simp [D.key] at h')
  | _ => cases h

/-! ### keys at values -/
mutual
def KeyAt (K : PySem.W.Frag) (H : Hp) : NestedKey → V → Prop
  | .none, v => v = .non
  | .num i, v => v = .int i
  | .text x, v => v = .str x
  | .tup ks, v => ∃ a vs, v = .ref a ∧ SqT K H a vs ∧ KeysAt K H ks vs
def KeysAt (K : PySem.W.Frag) (H : Hp) : List NestedKey → List V → Prop
  | [], vs => vs = []
  | k :: ks, vs => ∃ v r, vs = v :: r ∧ KeyAt K H k v ∧ KeysAt K H ks r
end
mutual
theorem key_rep : ∀ (d : D) (k : NestedKey) (v : V), d.nk = some k → Rep K ι n H d v → KeyAt K H k v
  | .non, _, _, h, r => by cases h; exact r
  | .int _, _, _, h, r => by cases h; exact r
  | .str _, _, _, h, r => by cases h; exact r
  | .bl _, _, _, h, _ => by cases h
  | .ref _, _, _, h, _ => by cases h
  | .tup xs, k, _, h, r => by
    obtain ⟨a, vs, rfl, h1, h2⟩ := r
    unfold D.nk at h
    cases e : D.nks xs with
    | none => simp only [e, Option.map_none] at h; cases h
    | some ks =>
      simp only [e, Option.map_some] at h
      cases h
      exact ⟨a, vs, rfl, h1.sq, keys_rep xs ks vs e h2⟩
theorem keys_rep : ∀ (ds : List D) (ks : List NestedKey) (vs : List V), D.nks ds = some ks → Reps K ι n H ds vs → KeysAt K H ks vs
  | [], _, _, h, r => by cases h; exact r
  | d :: ds, ks, _, h, r => by
    obtain ⟨v, u, rfl, h1, h2⟩ := r
    unfold D.nks at h
    cases e : d.nk with
    | none => simp only [e] at h; cases h
    | some k =>
      cases e2 : D.nks ds with
      | none => simp only [e, e2] at h; cases h
      | some js =>
        simp only [e, e2] at h
        cases h
        exact ⟨v, u, rfl, key_rep d k v e h1, keys_rep ds js u e2 h2⟩
end
section
variable {pins : List (Addr × Obj)} {σ : L2.St} {s : Shared}
mutual
theorem key_is (I : Inv X pins σ H s) : ∀ (k : NestedKey) (v : V) (u : Value), KeyAt X.K H k v → RelV v u → NestedIs s.heap k u
  | .none, _, _, h, r => by obtain rfl := h; obtain rfl := r; exact .none
  | .num i, _, _, h, r => by obtain rfl := h; obtain ⟨t, rfl⟩ := r; exact .int i t
  | .text x, _, _, h, r => by obtain rfl := h; obtain ⟨t, rfl⟩ := r; exact .text x t
  | .tup ks, _, _, h, r => by
    obtain ⟨a, vs, rfl, h1, h2⟩ := h
    obtain rfl := r
    obtain ⟨its, rv, ⟨o, ho, hc, k, hd⟩, _⟩ := I.tuple h1
    exact .tup ho hc hd (keys_is I ks vs its h2 rv)
theorem keys_is (I : Inv X pins σ H s) : ∀ (ks : List NestedKey) (vs : List V) (us : List Value), KeysAt X.K H ks vs → Vals vs us → NestedAll s.heap ks us
  | [], _, _, h, r => by obtain rfl := h; cases r; exact .nil
  | k :: ks, _, _, h, r => by
    obtain ⟨v, w, rfl, h1, h2⟩ := h
    cases r with
    | cons r1 r2 => exact .cons (key_is I k v _ h1 r1) (keys_is I ks w _ h2 r2)
end

/-! ### dicts by tuples -/
abbrev KX := List (NestedKey × Addr × V)
def valN (xs : KX) (k : NestedKey) : Option V := (xs.find? fun p => decide (p.1 = k)).map (·.2.2)
def putN (xs : KX) (k : NestedKey) (b : Addr) (v : V) : KX := if (valN xs k).isSome = true then xs.map (fun p => if p.1 = k then (p.1, p.2.1, v) else p) else xs ++ [(k, b, v)]
abbrev KXR : KX → List (NestedKey × Addr × Value) → Prop := Paired fun p q => p.1 = q.1 ∧ p.2.1 = q.2.1 ∧ RelV p.2.2 q.2.2
theorem kxr_val : ∀ {xs : KX} {ys : List (NestedKey × Addr × Value)} (k : NestedKey), KXR xs ys → RelO (valN xs k) ((atKey ys k).map (·.2))
  | _, _, k, .nil => trivial
  | p :: xs, q :: ys, k, .cons ⟨h1, h2, h3⟩ t => by
    have ih := kxr_val k t
    unfold valN atKey at ih ⊢
    by_cases e : p.1 = k
    · have e2 : q.1 = k := h1 ▸ e
      simp only [List.find?_cons, e, e2, decide_true]
      exact h3
    · have e2 : ¬ q.1 = k := h1 ▸ e
      simp only [List.find?_cons, e, e2, decide_false]
      exact ih
theorem kxr_len {xs : KX} {ys : List (NestedKey × Addr × Value)} (r : KXR xs ys) : xs.length = ys.length := Paired.length r
theorem kxr_map {xs : KX} {ys : List (NestedKey × Addr × Value)} (r : KXR xs ys) (k : NestedKey) {v : V} {u : Value} (rv : RelV v u) : KXR (xs.map fun p => if p.1 = k then (p.1, p.2.1, v) else p) (ys.map (putAt k u)) := by
  induction r with
  | nil => exact .nil
  | @cons p q _ _ h t ih =>
    refine .cons ?_ ih
    obtain ⟨h1, h2, h3⟩ := h
    unfold putAt
    dsimp only
    by_cases e : p.1 = k
    · rw [if_pos e, if_pos (h1 ▸ e)]; exact ⟨h1, h2, rv⟩
    · rw [if_neg e, if_neg (h1 ▸ e)]; exact ⟨h1, h2, h3⟩
theorem kxr_app : ∀ {xs xs' : KX} {ys ys' : List (NestedKey × Addr × Value)}, KXR xs ys → KXR xs' ys' → KXR (xs ++ xs') (ys ++ ys')
  | _, _, _, _, .nil, h => h
  | _, _, _, _, .cons h t, g => .cons h (kxr_app t g)
theorem kxr_put {xs : KX} {ys : List (NestedKey × Addr × Value)} (r : KXR xs ys) (k : NestedKey) (b : Addr) {v : V} {u : Value} (rv : RelV v u) : KXR (putN xs k b v) (storedH ys k b u) := by
  have h := kxr_val k r
  unfold putN storedH
  have e : (valN xs k).isSome = (atKey ys k).isSome := by rw [h.isSome_eq, Option.isSome_map]
  rw [e]
  split
  · exact kxr_map r k rv
  · exact kxr_app r (.cons ⟨rfl, rfl, rv⟩ .nil)
/-- the keys are there -/
def KeysOk (K : PySem.W.Frag) (H : Hp) (xs : KX) : Prop := ∀ p ∈ xs, KeyAt K H p.1 (.ref p.2.1) ∧ p.1.depth ≤ 8
theorem dN_of {P : Program} {h : Heap} {a : Addr} {xs : KX} (I : Inv X pins σ H s) (e : H a = some (dN X.w a xs)) (ok : KeysOk X.K H xs) :
    (a == sysModules) = false ∧ xs.length ≤ sizeLine ∧ ∃ ys, KXR xs ys ∧ s.heap.DictOfH (nestedKind X.prog X.w) a ys := by
  obtain ⟨⟨h1, h2, ys, r, o, es, ep, h3, h4, h5, h6, h7⟩, _⟩ := I.hok a _ e
  refine ⟨h1, h2, ys, r, o, es, ep, h3, h4, h5, h6, fun y hy => ?_, h7⟩
  obtain ⟨j, hj, ej⟩ := List.getElem_of_mem hy
  have hj2 : j < xs.length := by rw [kxr_len r]; exact hj
  have key : ∀ {xs : KX} {ys : List (NestedKey × Addr × Value)}, KXR xs ys → ∀ {j : Nat} {y}, ys[j]? = some y → ∃ x, xs[j]? = some x ∧ x.1 = y.1 ∧ x.2.1 = y.2.1 := by
    intro xs ys r
    induction r with
    | nil => intro j y h; simp at h
    | cons h t ih =>
      intro j y hy
      cases j with
      | zero => simp at hy; subst hy; exact ⟨_, rfl, h.1, h.2.1⟩
      | succ j => exact (by obtain ⟨x, h1, h2⟩ := ih (by simpa using hy); exact ⟨x, by simpa using h1, h2⟩)
  obtain ⟨x, hx, e1, e2⟩ := key r (by rw [List.getElem?_eq_getElem hj, ej])
  obtain ⟨k1, k2⟩ := ok x (List.mem_of_getElem? hx)
  rw [← e1, ← e2]
  exact ⟨key_is I _ _ _ k1 rfl, k2⟩
theorem dN_new {P : Program} {H' : Hp} {h' : Heap} {a : Addr} {xs : KX} {ys : List (NestedKey × Addr × Value)} (h1 : (a == sysModules) = false) (h2 : xs.length ≤ sizeLine) (r : KXR xs ys) (dd : h'.DictOfH (nestedKind P w) a ys) : ObjOk P w H' h' a (dN w a xs) := by
  obtain ⟨o, es, ep, h3, h4, h5, h6, _, h7⟩ := dd
  refine ⟨⟨h1, h2, ys, r, o, es, ep, h3, h4, h5, h6, h7⟩, ⟨o, h3⟩, fun g g' ⟨a1, a2, zs, a3, o', es', ep', a4, a5⟩ k => ⟨a1, a2, zs, a3, o', es', ep', k _ a4, a5⟩⟩
/-- a dict of tuples, or one that is empty -/
def IsDN (K : PySem.W.Frag) (w : World) (H : Hp) (a : Addr) (xs : KX) : Prop := (H a = some (dN w a xs) ∧ KeysOk K H xs) ∨ (xs = [] ∧ H a = some (.dK []))
theorem isDN_of {a : Addr} {xs : KX} (I : Inv X pins σ H s) (e : IsDN X.K X.w H a xs) :
    (a == sysModules) = false ∧ xs.length ≤ sizeLine ∧ ∃ ys, KXR xs ys ∧ s.heap.DictOfH (nestedKind X.prog X.w) a ys := by
  rcases e with ⟨e, ok⟩ | ⟨rfl, e⟩
  · exact dN_of (P := X.prog) (h := s.heap) I e ok
  · obtain ⟨_, hd, vs, rel, o, es, ep, h1, h2, h3, h4, h5, _⟩ := dk_of I.hok e
    cases rel
    refine ⟨hd, Nat.zero_le _, [], .nil, o, es, ep, h1, h2, h3, ?_, fun x hx => (by cases hx), List.nodup_nil⟩
    generalize es.toList = l at h5
    cases h5
    rfl
/-- d[k], k in d, d[k] = v, d.get(k, x) -/
def rIxN (K : PySem.W.Frag) (w : World) : R2 := fun x y H Q => ∃ a b xs k v, x = .ref a ∧ y = .ref b ∧ IsDN K w H a xs ∧ KeyAt K H k (.ref b) ∧ k.depth ≤ 8 ∧ valN xs k = some v ∧ Q v H
def rInN (K : PySem.W.Frag) (w : World) (neg : Bool) : R2 := fun y x H Q => ∃ a b xs k, x = .ref a ∧ y = .ref b ∧ IsDN K w H a xs ∧ KeyAt K H k (.ref b) ∧ k.depth ≤ 8 ∧ Q (.bl ((valN xs k).isSome != neg)) H
theorem room8 {A : Around} (hu : A.units + 9 < cLine) : A.in1.units + 8 < cLine := by
  show A.units + 1 + 8 < cLine
  omega
theorem ix_N (hu : X.A.units + 9 < cLine) : IxR X (rIxN X.K X.w) := by
  intro value slice pins s σ H x y v u Q I rx ry h hs
  obtain ⟨a, b, xs, k, r, rfl, rfl, hd, hk, hk8, hv, q⟩ := h
  cases rx
  cases ry
  obtain ⟨h1, h2, ys, rel, dd⟩ := isDN_of I hd
  obtain ⟨w', hw, rw'⟩ := RelO.some_of (v := r) (o := (atKey ys k).map (·.2)) (by rw [← hv]; exact kxr_val k rel)
  obtain ⟨p, hp, rfl⟩ := Option.map_eq_some_iff.mp hw
  exact PyProof.Rows.subscriptTail_builtinR (x := p.2) dd.typeIs PySem.F.slot_dict_getitem.lookup
    (wpAny_getItem_heap (knd := nestedKind X.prog X.w) (Q := fun z s' => z = p.2 ∧ EP X pins σ Q z s') (room8 hu) ⟨key_is I k _ _ hk rfl, hk8⟩ dd hp ⟨rfl, r, H, I.tok _, rw', q⟩) hs
/-- a dict by ints and texts -/
def rIxK : R2 := fun x y H Q => ∃ a kvs k v, x = .ref a ∧ y = kV k ∧ H a = some (.dK kvs) ∧ valV kvs k = some v ∧ Q v H
theorem ix_K : IxR X rIxK := by
  intro value slice pins s σ H x y v u Q I rx ry h hs
  obtain ⟨a, kvs, k, r, rfl, rfl, hd, hv, q⟩ := h
  cases rx
  obtain ⟨z, hne, vs, rel, dd⟩ := dk_of I.hok hd
  obtain ⟨w', hw, rw'⟩ := RelO.some_of (v := r) (o := valueAt vs k) (by rw [← hv]; exact rel.val k)
  exact PyProof.Rows.subscriptTail_builtinR (x := w') dd.typeIs PySem.F.slot_dict_getitem.lookup
    (wpAny_getItem_of (Q := fun z s' => z = w' ∧ EP X pins σ Q z s') (kV_is ry) dd.mapOf hw ⟨rfl, r, H, I.tok _, rw', q⟩) hs
def rInK (neg : Bool) : R2 := fun y x H Q => ∃ a kvs k, x = .ref a ∧ y = kV k ∧ H a = some (.dK kvs) ∧ Q (.bl ((valV kvs k).isSome != neg)) H
theorem op_inK (hu : X.A.units + 9 < cLine) : OpR X (compareOp .In) (rInK false) := by
  intro pins s σ H y x u v Q I ry rx h
  obtain ⟨a, kvs, k, rfl, rfl, hd, q⟩ := h
  cases rx
  exact d_in (by omega) I (DGet.k hd) ry fun s' I' => ⟨.bl _, H, I', rfl, by simpa using q⟩
theorem op_notInK (hu : X.A.units + 9 < cLine) : OpR X (compareOp .NotIn) (rInK true) := by
  intro pins s σ H y x u v Q I ry rx h
  obtain ⟨a, kvs, k, rfl, rfl, hd, q⟩ := h
  cases rx
  exact d_notIn (by omega) I (DGet.k hd) ry fun s' I' => ⟨.bl _, H, I', rfl, by simpa using q⟩
def rSetK : V → V → V → Hp → (Hp → Prop) → Prop := fun o i v H Q => ∃ a kvs k, o = .ref a ∧ i = kV k ∧ H a = some (.dK kvs) ∧ kvs.length < sizeLine ∧ Q (upd H a (.dK (putK kvs k v)))
theorem set_K (hu : X.A.units + 9 < cLine) : PSet X rSetK := by
  intro pins s σ H o i v ov iv u Q I ro ri rv h
  obtain ⟨a, kvs, k, rfl, rfl, hd, hz, q⟩ := h
  cases ro
  exact d_setItem (by omega) I (DPut.k hd hz) ri rv fun s' I' => ⟨_, I', q⟩
theorem op_inN (hu : X.A.units + 9 < cLine) : OpR X (compareOp .In) (rInN X.K X.w false) := by
  intro pins s σ H y x u v Q I ry rx h
  obtain ⟨a, b, xs, k, rfl, rfl, hd, hk, hk8, q⟩ := h
  cases rx
  cases ry
  obtain ⟨h1, h2, ys, rel, dd⟩ := isDN_of I hd
  refine wpAny_in_heap (knd := nestedKind X.prog X.w) (room8 hu) ⟨key_is I k _ _ hk rfl, hk8⟩ h1 dd ⟨.bl _, H, I.tok _, rfl, ?_⟩
  have e := (kxr_val k rel).isSome_eq
  rw [Option.isSome_map] at e
  rw [← e]
  simpa using q
theorem op_notInN (hu : X.A.units + 9 < cLine) : OpR X (compareOp .NotIn) (rInN X.K X.w true) := by
  intro pins s σ H y x u v Q I ry rx h
  obtain ⟨a, b, xs, k, rfl, rfl, hd, hk, hk8, q⟩ := h
  cases rx
  cases ry
  obtain ⟨h1, h2, ys, rel, dd⟩ := isDN_of I hd
  refine PyProof.Rows.wpAny_notIn_heap (knd := nestedKind X.prog X.w) (room8 hu) ⟨key_is I k _ _ hk rfl, hk8⟩ h1 dd ⟨.bl _, H, I.tok _, rfl, ?_⟩
  have e := (kxr_val k rel).isSome_eq
  rw [Option.isSome_map] at e
  rw [← e]
  simpa using q
def rSetN (K : PySem.W.Frag) (w : World) : V → V → V → Hp → (Hp → Prop) → Prop := fun o i v H Q => ∃ a b xs k, o = .ref a ∧ i = .ref b ∧ IsDN K w H a xs ∧ KeyAt K H k (.ref b) ∧ k.depth ≤ 8 ∧ xs.length < sizeLine ∧ Q (upd H a (dN w a (putN xs k b v)))
theorem putN_len (xs : KX) (k : NestedKey) (b : Addr) (v : V) : (putN xs k b v).length ≤ xs.length + 1 := by
  unfold putN
  split
  · rw [List.length_map]; omega
  · rw [List.length_append]; exact Nat.le_refl _
theorem set_N (hu : X.A.units + 9 < cLine) : PSet X (rSetN X.K X.w) := by
  intro pins s σ H o i v ov iv u Q I ro ri rv h
  obtain ⟨a, b, xs, k, rfl, rfl, hd, hk, hk8, hz, q⟩ := h
  cases ro
  cases ri
  obtain ⟨h1, h2, ys, rel, dd⟩ := isDN_of I hd
  refine wpAny_setItem_heap (knd := nestedKind X.prog X.w) (hsz := by rw [← kxr_len rel]; exact h2) (room8 hu) ⟨key_is I k _ _ hk rfl, hk8⟩ dd fun h' dd' hs => ⟨_, ?_, q⟩
  have mu : Mut (H a) := by
    rcases hd with ⟨e, _⟩ | ⟨_, e⟩ <;> rw [e] <;> exact True.intro
  have he : ∃ q, h'.get? a = some q := let ⟨q, _, _, hq, _⟩ := dd'; ⟨q, hq⟩
  exact d_write I mu hs he (dN_new h1 (Nat.le_trans (putN_len _ _ _ _) hz) (kxr_put rel k b rv) dd')
end
end
end DL
/-! The D layer: dicts by data, truth, further sequence rules, methods, calls by name. -/
namespace DL
open PySem PySem.Spec L2

section
variable {X : Cx} {K : PySem.W.Frag} {w : World} {mg : Str → Option Value} {W : WX} {ι : Nat → Addr} {n : Nat} {H : Hp}

/-! ### dicts by data -/
def flatK (e : D) : Bool := e.key.isSome
def tupK (e : D) : Bool := match e with
  | .tup xs => match (D.tup xs).nk with
    | some k => decide (k.depth ≤ 8)
    | none => false
  | _ => false
theorem key_rep' {d : D} {k : Key} {v : V} (h : d.key = some k) (r : Rep K ι n H d v) : v = kV k := by
  cases d with
  | int i => cases h; exact r
  | str x => cases h; exact r
  | _ => cases h
theorem pk_val {kvs : List (D × D)} {ks : List (Key × V)} {e : D} {k : Key} (he : e.key = some k) :
    Paired (fun (p : D × D) (q : Key × V) => p.1.key = some q.1 ∧ Rep K ι n H p.2 q.2) kvs ks →
    (lookD kvs e = none ∧ valV ks k = none) ∨ ∃ d v, lookD kvs e = some d ∧ valV ks k = some v ∧ Rep K ι n H d v := by
  intro r
  induction r with
  | nil => exact .inl ⟨rfl, rfl⟩
  | @cons p q ps qs h t ih =>
    by_cases hk : p.1 = e
    · have hq : q.1 = k := by
        rw [hk, he] at h
        exact (Option.some.inj h.1).symm
      exact .inr ⟨p.2, q.2, by simp [lookD, List.find?, hk], by simp [valV, List.find?, hq], h.2⟩
    · have hq : ¬ q.1 = k := fun z => hk (key_inj (k := k) (by rw [h.1, z]) he)
      rcases ih with ⟨h1, h2⟩ | ⟨d, v, h1, h2, h3⟩
      · exact .inl ⟨by simp only [lookD, List.find?, hk, decide_false] at h1 ⊢; exact h1, by simp only [valV, List.find?, hq, decide_false] at h2 ⊢; exact h2⟩
      · exact .inr ⟨d, v, by simp only [lookD, List.find?, hk, decide_false] at h1 ⊢; exact h1, by simp only [valV, List.find?, hq, decide_false] at h2 ⊢; exact h2, h3⟩
theorem pn_val {kvs : List (D × D)} {xs : KX} {e : D} {k : NestedKey} (he : e.nk = some k) :
    Paired (fun (p : D × D) (q : NestedKey × Addr × V) => (∃ ds, p.1 = .tup ds) ∧ p.1.nk = some q.1 ∧ q.1.depth ≤ 8 ∧ Rep K ι n H p.1 (.ref q.2.1) ∧ Rep K ι n H p.2 q.2.2) kvs xs →
    (lookD kvs e = none ∧ valN xs k = none) ∨ ∃ d v, lookD kvs e = some d ∧ valN xs k = some v ∧ Rep K ι n H d v := by
  intro r
  induction r with
  | nil => exact .inl ⟨rfl, rfl⟩
  | @cons p q ps qs h t ih =>
    by_cases hk : p.1 = e
    · have hq : q.1 = k := by
        rw [hk, he] at h
        exact (Option.some.inj h.2.1).symm
      exact .inr ⟨p.2, q.2.2, by simp [lookD, List.find?, hk], by simp [valN, List.find?, hq], h.2.2.2.2⟩
    · have hq : ¬ q.1 = k := fun z => hk (nk_inj _ _ k (by rw [h.2.1, z]) he)
      rcases ih with ⟨h1, h2⟩ | ⟨d, v, h1, h2, h3⟩
      · exact .inl ⟨by simp only [lookD, List.find?, hk, decide_false] at h1 ⊢; exact h1, by simp only [valN, List.find?, hq, decide_false] at h2 ⊢; exact h2⟩
      · exact .inr ⟨d, v, by simp only [lookD, List.find?, hk, decide_false] at h1 ⊢; exact h1, by simp only [valN, List.find?, hq, decide_false] at h2 ⊢; exact h2, h3⟩
theorem pn_ok {kvs : List (D × D)} {xs : KX} (r : Paired (fun (p : D × D) (q : NestedKey × Addr × V) => (∃ ds, p.1 = .tup ds) ∧ p.1.nk = some q.1 ∧ q.1.depth ≤ 8 ∧ Rep K ι n H p.1 (.ref q.2.1) ∧ Rep K ι n H p.2 q.2.2) kvs xs) : KeysOk K H xs := by
  induction r with
  | nil => intro p hp; cases hp
  | @cons p q ps qs h t ih =>
    intro z hz
    rcases List.mem_cons.mp hz with rfl | hz
    · exact ⟨key_rep _ _ _ h.2.1 h.2.2.2.1, h.2.2.1⟩
    · exact ih z hz
/-- what a key that is there is -/
theorem look_mem {kvs : List (D × D)} {e d : D} (h : lookD kvs e = some d) : (e, d) ∈ kvs := by
  unfold lookD at h
  obtain ⟨p, h1, h2⟩ := Option.map_eq_some_iff.mp h
  have := List.find?_some h1
  have e1 : p.1 = e := by simpa using this
  have := List.mem_of_find?_eq_some h1
  rw [← e1, ← h2]; exact this
theorem paired_mem {α β : Type} {F : α → β → Prop} : ∀ {xs : List α} {ys : List β}, Paired F xs ys → ∀ {x}, x ∈ xs → ∃ y, y ∈ ys ∧ F x y
  | _, _, .nil, _, h => by cases h
  | _, _, .cons r t, x, h => by
    rcases List.mem_cons.mp h with rfl | h
    · exact ⟨_, List.mem_cons_self, r⟩
    · obtain ⟨y, h1, h2⟩ := paired_mem t h
      exact ⟨y, List.mem_cons_of_mem _ h1, h2⟩
def opIxM : O2 := fun d e m => match d with
  | .ref l => match m[l]? with
    | some (.dct kvs) => match lookD kvs e with
      | some x => .ok x m
      | none => .stk
    | _ => opIx (.ref l) e m
  | d => opIx d e m
def rIxM (K : PySem.W.Frag) (w : World) : R2 := fun x y H Q => rIx K x y H Q ∨ rIxK x y H Q ∨ rIxN K w x y H Q
theorem ix_M (hu : X.A.units + 9 < cLine) : IxR X (rIxM X.K X.w) := ix_seq.or (ix_K.or (ix_N hu))
theorem dct_of {m : Mem} (M : RelM K w ι m H) {l : Nat} {kvs : List (D × D)} (h : m[l]? = some (.dct kvs)) : ObjR K w ι m.length H (ι l) (.dct kvs) := M.obj l _ h
theorem tupK_of {e : D} (h : tupK e = true) : ∃ xs k, e = .tup xs ∧ e.nk = some k ∧ k.depth ≤ 8 := by
  cases e with
  | tup xs =>
    cases h1 : (D.tup xs).nk with
    | none => unfold tupK at h; simp only [h1] at h; cases h
    | some k => unfold tupK at h; simp only [h1] at h; exact ⟨xs, k, rfl, rfl, of_decide_eq_true h⟩
  | _ => cases h
theorem dop_ixM : DOp K w mg W (rIxM K w) opIxM := fun σ ι m H x y d e Q M rx ry q => by
  by_cases hd : ∃ l kvs, d = .ref l ∧ m[l]? = some (.dct kvs)
  · obtain ⟨l, kvs, rfl, h1⟩ := hd
    cases h2 : lookD kvs e with
    | none => simp only [opIxM, h1, h2] at q; exact q.elim
    | some z =>
      simp only [opIxM, h1, h2] at q
      obtain ⟨_, rfl⟩ := rx
      rcases dct_of M h1 with ⟨ks, h3, h4⟩ | ⟨xs, h3, hne, h4⟩
      · obtain ⟨p, hp, hk, _⟩ := paired_mem h4 (look_mem h2)
        rcases pk_val hk h4 with ⟨z1, _⟩ | ⟨d', v, z1, z2, z3⟩
        · rw [h2] at z1; cases z1
        · rw [h2] at z1
          cases z1
          exact .inr (.inl ⟨_, ks, p.1, v, rfl, key_rep' hk ry, h3, z2, fin_now (α := D) q M _ z3⟩)
      · obtain ⟨p, hp, ⟨ds, ed⟩, hk, hk8, _⟩ := paired_mem h4 (look_mem h2)
        have ed' : e = .tup ds := ed
        subst ed'
        rcases pn_val hk h4 with ⟨z1, _⟩ | ⟨d', v, z1, z2, z3⟩
        · rw [h2] at z1; cases z1
        · rw [h2] at z1
          cases z1
          obtain ⟨a, vs, rfl, h5, h6⟩ := id ry
          exact .inr (.inr ⟨_, a, xs, p.1, v, rfl, rfl, .inl ⟨h3, pn_ok h4⟩, key_rep _ _ _ hk ry, hk8, z2, fin_now (α := D) q M _ z3⟩)
  · refine .inl (dop_ix (mg := mg) (W := W) σ ι m H x y d e Q M rx ry ?_)
    have : opIxM d e m = opIx d e m := by
      unfold opIxM
      cases d with
      | ref l =>
        cases h1 : m[l]? with
        | none => simp [h1]
        | some o =>
          cases o with
          | dct kvs => exact absurd ⟨l, kvs, rfl, h1⟩ hd
          | _ => simp [h1]
      | _ => rfl
    rw [← this]; exact q
theorem de_ixM {a b : Expr} {fa fb : DF} {pos : Pos} (hu : X.A.units + 9 < cLine) (ha : DE X W a fa) (hb : DE X W b fb) (hs : PlainIx b) : DE X W (.Subscript a b pos) (dBin opIxM fa fb) := de_ix (ix_M hu) dop_ixM ha hb hs
/-- d[k] = v -/
def opSetM : O3 := fun o i v m => match o with
  | .ref l => match m[l]? with
    | some (.dct kvs) => if kvs.length < sizeLine ∧ ((flatK i = true ∧ (kvs.all fun p => flatK p.1) = true) ∨ (tupK i = true ∧ (kvs.all fun p => tupK p.1) = true)) then .ok () (m.set l (.dct (putD kvs i v))) else .stk
    | _ => opSet (.ref l) i v m
  | o => opSet o i v m
def rSetM (K : PySem.W.Frag) (w : World) : V → V → V → Hp → (Hp → Prop) → Prop := fun o i v H Q => rSetL o i v H Q ∨ rSetK o i v H Q ∨ rSetN K w o i v H Q
theorem PSet.or' {t t' : TSet} (h : PSet X t) (h' : PSet X t') : PSet X (fun o i v H Q => t o i v H Q ∨ t' o i v H Q) := by
  intro pins s σ H o i v ov iv u Q I ro ri rv q
  rcases q with q | q
  · exact h pins s σ H o i v ov iv u Q I ro ri rv q
  · exact h' pins s σ H o i v ov iv u Q I ro ri rv q
theorem set_M (hu : X.A.units + 9 < cLine) : PSet X (rSetM X.K X.w) := PSet.or' set_list (PSet.or' (set_K hu) (set_N hu))
theorem pk_put {kvs : List (D × D)} {ks : List (Key × V)} {e d : D} {k : Key} {v : V} (he : e.key = some k) (rv : Rep K ι n H d v)
    (r : Paired (fun (p : D × D) (q : Key × V) => p.1.key = some q.1 ∧ Rep K ι n H p.2 q.2) kvs ks) :
    Paired (fun (p : D × D) (q : Key × V) => p.1.key = some q.1 ∧ Rep K ι n H p.2 q.2) (putD kvs e d) (putK ks k v) := by
  have hs : (lookD kvs e).isSome = (valV ks k).isSome := by
    rcases pk_val he r with ⟨h1, h2⟩ | ⟨_, _, h1, h2, _⟩ <;> rw [h1, h2] <;> rfl
  have app : ∀ {xs : List (D × D)} {ys : List (Key × V)}, Paired (fun (p : D × D) (q : Key × V) => p.1.key = some q.1 ∧ Rep K ι n H p.2 q.2) xs ys → Paired (fun (p : D × D) (q : Key × V) => p.1.key = some q.1 ∧ Rep K ι n H p.2 q.2) (xs ++ [(e, d)]) (ys ++ [(k, v)]) := by
    intro xs ys r
    induction r with
    | nil => exact .cons ⟨he, rv⟩ .nil
    | cons h t ih => exact .cons h ih
  have any : (ks.any fun kv => decide (kv.1 = k)) = (valV ks k).isSome := by
    clear hs r app
    induction ks with
    | nil => rfl
    | cons q qs ih =>
      rw [List.any_cons, ih]
      by_cases hq : q.1 = k <;> simp [valV, List.find?, hq]
  have mp : ∀ {kvs : List (D × D)} {ks : List (Key × V)}, Paired (fun (p : D × D) (q : Key × V) => p.1.key = some q.1 ∧ Rep K ι n H p.2 q.2) kvs ks → Paired (fun (p : D × D) (q : Key × V) => p.1.key = some q.1 ∧ Rep K ι n H p.2 q.2) (kvs.map fun p => if p.1 = e then (p.1, d) else p) (ks.map fun p => if p.1 = k then (p.1, v) else p) := by
    intro kvs ks r
    induction r with
    | nil => exact .nil
    | @cons p q ps qs h t ih =>
      refine .cons ?_ ih
      by_cases hk : p.1 = e
      · have hq : q.1 = k := by rw [hk, he] at h; exact (Option.some.inj h.1).symm
        simp only [hk, hq, if_true]
        exact ⟨he, rv⟩
      · have hq : ¬ q.1 = k := fun z => hk (key_inj (k := k) (by rw [h.1, z]) he)
        simp only [hk, hq, if_false]
        exact h
  unfold putD putK
  rw [hs, any]
  split
  · exact mp r
  · exact app r
theorem pn_put {kvs : List (D × D)} {xs : KX} {e d : D} {k : NestedKey} {a : Addr} {v : V} (he : e.nk = some k) (h8 : k.depth ≤ 8) (hT : ∃ ds, e = .tup ds) (re : Rep K ι n H e (.ref a)) (rv : Rep K ι n H d v)
    (r : Paired (fun (p : D × D) (q : NestedKey × Addr × V) => (∃ ds, p.1 = .tup ds) ∧ p.1.nk = some q.1 ∧ q.1.depth ≤ 8 ∧ Rep K ι n H p.1 (.ref q.2.1) ∧ Rep K ι n H p.2 q.2.2) kvs xs) :
    Paired (fun (p : D × D) (q : NestedKey × Addr × V) => (∃ ds, p.1 = .tup ds) ∧ p.1.nk = some q.1 ∧ q.1.depth ≤ 8 ∧ Rep K ι n H p.1 (.ref q.2.1) ∧ Rep K ι n H p.2 q.2.2) (putD kvs e d) (putN xs k a v) := by
  have hs : (lookD kvs e).isSome = (valN xs k).isSome := by
    rcases pn_val he r with ⟨h1, h2⟩ | ⟨_, _, h1, h2, _⟩ <;> rw [h1, h2] <;> rfl
  unfold putD putN
  rw [hs]
  split
  · clear hs
    rename_i hh
    clear hh
    induction r with
    | nil => exact .nil
    | @cons p q ps qs h t ih =>
      refine .cons ?_ ih
      by_cases hk : p.1 = e
      · have hq : q.1 = k := by rw [hk, he] at h; exact (Option.some.inj h.2.1).symm
        simp only [hk, hq, if_true]
        exact ⟨hT, he, h8, by rw [← hk]; exact h.2.2.2.1, rv⟩
      · have hq : ¬ q.1 = k := fun z => hk (nk_inj _ _ k (by rw [h.2.1, z]) he)
        simp only [hk, hq, if_false]
        exact h
  · rename_i hh
    clear hh hs
    induction r with
    | nil => exact .cons ⟨hT, he, h8, re, rv⟩ .nil
    | cons h t ih => exact .cons h ih
theorem putD_all {kvs : List (D × D)} {e d : D} {f : D → Bool} (he : f e = true) (h : (kvs.all fun p => f p.1) = true) : ((putD kvs e d).all fun p => f p.1) = true := by
  unfold putD
  split
  · rw [List.all_map]
    rw [List.all_eq_true] at h ⊢
    intro p hp
    show f (if p.1 = e then (p.1, d) else p).1 = true
    split
    · exact h p hp
    · exact h p hp
  · rw [List.all_append, h, Bool.true_and]
    simp [he]
theorem dset_M : DSetR K w mg W (rSetM K w) opSetM := fun σ ι m H o i v do_ di dv Q M ro ri rv q => by
  by_cases hd : ∃ l kvs, do_ = .ref l ∧ m[l]? = some (.dct kvs)
  · obtain ⟨l, kvs, rfl, h1⟩ := hd
    simp only [opSetM, h1] at q
    by_cases hc : kvs.length < sizeLine ∧ ((flatK di = true ∧ (kvs.all fun p => flatK p.1) = true) ∨ (tupK di = true ∧ (kvs.all fun p => tupK p.1) = true))
    · rw [if_pos hc] at q
      obtain ⟨hz, hk⟩ := hc
      obtain ⟨_, rfl⟩ := ro
      have hlen : ∀ o', (m.set l o').length = m.length := fun o' => List.length_set
      rcases hk with ⟨hf, ha⟩ | ⟨ht, ha⟩
      · obtain ⟨k, hk⟩ := Option.isSome_iff_exists.mp hf
        rcases dct_of M h1 with ⟨ks, h3, h4⟩ | ⟨xs, h3, hne, h4⟩
        · have S := Step.wr (ho := .dK (putK ks k v)) M h1 rfl
          refine .inr (.inl ⟨_, ks, k, rfl, key_rep' hk ri, h3, by rw [← Paired.length h4]; exact hz, q ι _ (by rw [hlen]; exact S) (M.wr h1 rfl rfl (.inl ⟨_, upd_same, ?_⟩))⟩)
          exact Paired.mp (fun p q z => ⟨z.1, Rep.step S _ _ z.2⟩) (pk_put hk rv h4)
        · cases h4 with
          | nil => exact absurd rfl hne
          | @cons p qq ps qs h t =>
            rw [List.all_cons, Bool.and_eq_true] at ha
            obtain ⟨ds, ed⟩ := h.1
            rw [ed] at ha
            cases ha.1
      · obtain ⟨es, k, rfl, hk, h8⟩ := tupK_of ht
        obtain ⟨a, vs, rfl, h5, h6⟩ := id ri
        have go : ∀ xs : KX, IsDN K w H (ι l) xs → Paired (fun (p : D × D) (q : NestedKey × Addr × V) => (∃ ds, p.1 = .tup ds) ∧ p.1.nk = some q.1 ∧ q.1.depth ≤ 8 ∧ Rep K ι m.length H p.1 (.ref q.2.1) ∧ Rep K ι m.length H p.2 q.2.2) kvs xs → rSetN K w (.ref (ι l)) (.ref a) v H Q := fun xs hI h4 => by
          have S := Step.wr (ho := dN w (ι l) (putN xs k a v)) M h1 rfl
          refine ⟨_, a, xs, k, rfl, rfl, hI, key_rep _ _ _ hk ri, h8, by rw [← Paired.length h4]; exact hz, q ι _ (by rw [hlen]; exact S) (M.wr h1 rfl rfl (.inr ⟨_, upd_same, ?_, ?_⟩))⟩
          · unfold putD
            split
            · rename_i hh
              intro z
              have : kvs = [] := by simpa using z
              rw [this] at hh
              cases hh
            · simp
          · exact Paired.mp (fun p q z => ⟨z.1, z.2.1, z.2.2.1, Rep.step S _ _ z.2.2.2.1, Rep.step S _ _ z.2.2.2.2⟩) (pn_put hk h8 ⟨es, rfl⟩ ri rv h4)
        rcases dct_of M h1 with ⟨ks, h3, h4⟩ | ⟨xs, h3, hne, h4⟩
        · cases h4 with
          | nil => exact .inr (.inr (go [] (.inr ⟨rfl, h3⟩) .nil))
          | @cons p qq ps qs h t =>
            rw [List.all_cons, Bool.and_eq_true] at ha
            obtain ⟨es2, k2, e2, _⟩ := tupK_of ha.1
            have := h.1
            rw [e2] at this
            cases this
        · exact .inr (.inr (go xs (.inl ⟨h3, pn_ok h4⟩) h4))
    · rw [if_neg hc] at q
      exact q.elim
  · refine .inl (dset_list (mg := mg) (W := W) σ ι m H o i v do_ di dv Q M ro ri rv ?_)
    have : opSetM do_ di dv m = opSet do_ di dv m := by
      unfold opSetM
      cases do_ with
      | ref l =>
        cases h1 : m[l]? with
        | none => simp [h1]
        | some o =>
          cases o with
          | dct kvs => exact absurd ⟨l, kvs, rfl, h1⟩ hd
          | _ => simp [h1]
      | _ => rfl
    rw [← this]; exact q
end
end DL
/-! The D layer: membership, truth, further rules of lists, methods, calls by name. -/
namespace DL
open PySem PySem.Spec L2

section
variable {X : Cx} {K : PySem.W.Frag} {w : World} {mg : Str → Option Value} {W : WX} {ι : Nat → Addr} {n : Nat} {H : Hp}

/-! ### x in y -/
def subStr (a b : Str) : Bool := !(Builtin.Str.occurrences b a 0 b.length 1).isEmpty
def inData (neg : Bool) : O2 := fun x y m => match pyM m x, pyM m y with
  | some d, some (.list ds) => if SeqAt.shaped d && SeqAt.shaped (.list ds) then .ok (.bl ((ds.any fun z => PyData.eqv z d) != neg)) m else .stk
  | some d, some (.tuple ds) => if SeqAt.shaped d && SeqAt.shaped (.tuple ds) then .ok (.bl ((ds.any fun z => PyData.eqv z d) != neg)) m else .stk
  | _, _ => .stk
def inDct (neg : Bool) (kvs : List (D × D)) (x : D) (m : Mem) : R D := if (flatK x = true ∧ (kvs.all fun p => flatK p.1) = true) ∨ (tupK x = true ∧ (kvs.all fun p => tupK p.1) = true) then .ok (.bl ((lookD kvs x).isSome != neg)) m else .stk
def opInB (neg : Bool) : O2 := fun x y m => match y with
  | .str b => match x with
    | .str a => .ok (.bl (subStr a b != neg)) m
    | _ => .stk
  | .ref l => match m[l]? with
    | some (.dct kvs) => inDct neg kvs x m
    | _ => inData neg x (.ref l) m
  | y => inData neg x y m
abbrev opIn : O2 := opInB false
abbrev opNotIn : O2 := opInB true
def rInTu (K : PySem.W.Frag) (neg : Bool) : R2 := fun x y H Q => ∃ d ds, Dp K H x d ∧ Dp K H y (.tuple ds) ∧ SeqAt.shaped d = true ∧ SeqAt.shaped (.tuple ds) = true ∧ Q (.bl ((ds.any fun z => PyData.eqv z d) != neg)) H
theorem room_tu {A : Around} {ds : List PyData} {d : PyData} (h : SeqAt.shaped d = true) (hu : A.units + 65 < cLine) : A.units + 1 + min (PyData.depthAll ds) d.depth < cLine := by
  have := SeqAt.depth_of_shaped h
  have := Nat.min_le_right (PyData.depthAll ds) d.depth
  omega
theorem op_inTu (hu : X.A.units + 65 < cLine) : OpR X (compareOp .In) (rInTu X.K false) := by
  intro pins s σ H x y v u Q I rx ry h
  obtain ⟨d, ds, hd, he, sd, se, q⟩ := h
  obtain ⟨as, r1⟩ := Dp.reads I d x v hd rx
  obtain ⟨bs, r2⟩ := Dp.reads I (.tuple ds) y u he ry
  exact SeqAt.in_tuple_reads r2 r1 (SeqAt.canLay_of_shaped se) (SeqAt.canLay_of_shaped sd) (room_tu sd hu) ⟨.bl _, H, I, rfl, by simpa using q⟩
theorem op_notInTu (hu : X.A.units + 65 < cLine) : OpR X (compareOp .NotIn) (rInTu X.K true) := by
  intro pins s σ H x y v u Q I rx ry h
  obtain ⟨d, ds, hd, he, sd, se, q⟩ := h
  obtain ⟨as, r1⟩ := Dp.reads I d x v hd rx
  obtain ⟨bs, r2⟩ := Dp.reads I (.tuple ds) y u he ry
  exact SeqAt.notIn_tuple_reads r2 r1 (SeqAt.canLay_of_shaped se) (SeqAt.canLay_of_shaped sd) (room_tu sd hu) ⟨.bl _, H, I, rfl, by simpa using q⟩
def rInS' (neg : Bool) : R2 := fun x y H Q => ∃ i j, x = .str i ∧ y = .str j ∧ Q (.bl (subStr i j != neg)) H
def rInLD (K : PySem.W.Frag) (neg : Bool) : R2 := fun x y H Q => ∃ d ds, Dp K H x d ∧ Dp K H y (.list ds) ∧ SeqAt.shaped d = true ∧ SeqAt.shaped (.list ds) = true ∧ Q (.bl ((ds.any fun z => PyData.eqv z d) != neg)) H
def rInAll (K : PySem.W.Frag) (w : World) (neg : Bool) : R2 := fun x y H Q => rInS' neg x y H Q ∨ rInLD K neg x y H Q ∨ rInTu K neg x y H Q ∨ rInK neg x y H Q ∨ rInN K w neg x y H Q
theorem OpR.mono {f : Value → Value → Sem Value} {r r' : R2} (h : OpR X f r) (i : ∀ x y H Q, r' x y H Q → r x y H Q) : OpR X f r' := fun pins s σ H x y v u Q I rx ry q => h pins s σ H x y v u Q I rx ry (i _ _ _ _ q)
theorem op_inAll (hu : X.A.units + 65 < cLine) : OpR X (compareOp .In) (rInAll X.K X.w false) :=
  (OpR.mono op_in_str fun x y H Q ⟨i, j, e, e', q⟩ => ⟨i, j, e, e', by simpa [subStr] using q⟩).or ((OpR.mono (op_inD hu) fun x y H Q ⟨d, ds, a, b, c, e, q⟩ => ⟨d, ds, a, b, c, e, by simpa using q⟩).or ((op_inTu hu).or ((op_inK (by omega)).or (op_inN (by omega)))))
theorem op_notInAll (hu : X.A.units + 65 < cLine) : OpR X (compareOp .NotIn) (rInAll X.K X.w true) :=
  (OpR.mono L2.op_notIn_str fun x y H Q ⟨i, j, e, e', q⟩ => ⟨i, j, e, e', by simpa [subStr] using q⟩).or ((OpR.mono (op_notInD hu) fun x y H Q ⟨d, ds, a, b, c, e, q⟩ => ⟨d, ds, a, b, c, e, by simpa using q⟩).or ((op_notInTu hu).or ((op_notInK (by omega)).or (op_notInN (by omega)))))
theorem inData_ok {neg : Bool} {σ : L2.St} {m : Mem} {x y : V} {d e : D} {Q : VK} (M : RelM K w ι m H) (rx : Rep K ι m.length H d x) (ry : Rep K ι m.length H e y) (q : fin K w mg W σ ι m.length H (pV K Q) (inData neg d e m)) : rInLD K neg x y H Q ∨ rInTu K neg x y H Q := by
  unfold inData at q
  cases e1 : pyM m d with
  | none => rw [e1] at q; exact q.elim
  | some p =>
    cases e2 : pyM m e with
    | none => rw [e1, e2] at q; exact q.elim
    | some pe =>
      rw [e1, e2] at q
      cases pe with
      | list ds =>
        cases h : (SeqAt.shaped p && SeqAt.shaped (.list ds)) with
        | false => simp only [h] at q; exact q.elim
        | true =>
          simp only [h, if_true] at q
          have h' := Bool.and_eq_true_iff.mp h
          exact .inl ⟨p, ds, pyM_dp M e1 rx, pyM_dp M e2 ry, h'.1, h'.2, fin_now (α := D) q M _ rfl⟩
      | tuple ds =>
        cases h : (SeqAt.shaped p && SeqAt.shaped (.tuple ds)) with
        | false => simp only [h] at q; exact q.elim
        | true =>
          simp only [h, if_true] at q
          have h' := Bool.and_eq_true_iff.mp h
          exact .inr ⟨p, ds, pyM_dp M e1 rx, pyM_dp M e2 ry, h'.1, h'.2, fin_now (α := D) q M _ rfl⟩
      | _ => exact q.elim
theorem dop_in {neg : Bool} : DOp K w mg W (rInAll K w neg) (opInB neg) := fun σ ι m H x y d e Q M rx ry q => by
  have base : ∀ {e : D}, Rep K ι m.length H e y → fin K w mg W σ ι m.length H (pV K Q) (inData neg d e m) → rInAll K w neg x y H Q := fun ry q => by
    rcases inData_ok M rx ry q with z | z
    · exact .inr (.inl z)
    · exact .inr (.inr (.inl z))
  cases e with
  | str b =>
    cases d with
    | str a => exact .inl ⟨a, b, rx, ry, fin_now (α := D) q M _ rfl⟩
    | _ => exact q.elim
  | ref l =>
    cases h1 : m[l]? with
    | none => simp only [opInB, h1] at q; exact base ry q
    | some o =>
      cases o with
      | dct kvs =>
        simp only [opInB, h1, inDct] at q
        by_cases hc : (flatK d = true ∧ (kvs.all fun p => flatK p.1) = true) ∨ (tupK d = true ∧ (kvs.all fun p => tupK p.1) = true)
        · rw [if_pos hc] at q
          obtain ⟨_, rfl⟩ := ry
          have q' := fin_now (α := D) q M _ rfl
          rcases hc with ⟨hf, ha⟩ | ⟨ht, ha⟩
          · obtain ⟨k, hk⟩ := Option.isSome_iff_exists.mp hf
            rcases dct_of M h1 with ⟨ks, h3, h4⟩ | ⟨xs, h3, hne, h4⟩
            · refine .inr (.inr (.inr (.inl ⟨_, ks, k, rfl, key_rep' hk rx, h3, ?_⟩)))
              rcases pk_val hk h4 with ⟨z1, z2⟩ | ⟨_, _, z1, z2, _⟩ <;> rw [z2] <;> rw [z1] at q' <;> exact q'
            · cases h4 with
              | nil => exact absurd rfl hne
              | @cons p qq ps qs h t =>
                rw [List.all_cons, Bool.and_eq_true] at ha
                obtain ⟨ds, ed⟩ := h.1
                rw [ed] at ha
                cases ha.1
          · obtain ⟨es, k, rfl, hk, h8⟩ := tupK_of ht
            obtain ⟨a, vs, rfl, h5, h6⟩ := id rx
            rcases dct_of M h1 with ⟨ks, h3, h4⟩ | ⟨xs, h3, hne, h4⟩
            · cases h4 with
              | nil => exact .inr (.inr (.inr (.inr ⟨_, a, [], k, rfl, rfl, .inr ⟨rfl, h3⟩, key_rep _ _ _ hk rx, h8, q'⟩)))
              | @cons p qq ps qs h t =>
                rw [List.all_cons, Bool.and_eq_true] at ha
                obtain ⟨es2, k2, e2, _⟩ := tupK_of ha.1
                have := h.1
                rw [e2] at this
                cases this
            · refine .inr (.inr (.inr (.inr ⟨_, a, xs, k, rfl, rfl, .inl ⟨h3, pn_ok h4⟩, key_rep _ _ _ hk rx, h8, ?_⟩)))
              rcases pn_val hk h4 with ⟨z1, z2⟩ | ⟨_, _, z1, z2, _⟩ <;> rw [z2] <;> rw [z1] at q' <;> exact q'
        · rw [if_neg hc] at q
          exact q.elim
      | _ => simp only [opInB, h1] at q; exact base ry q
  | _ => exact base ry q

/-! ### truth -/
def truD (d : D) (m : Mem) : Option Bool := match d with
  | .non => some false
  | .bl b => some b
  | .int i => some (i != 0)
  | .str x => if x.length ≤ sizeLine then some ((x.length : Int) != 0) else none
  | .tup xs => some (!xs.isEmpty)
  | .ref l => match m[l]? with
    | some (.lst xs) => some (!xs.isEmpty)
    | some (.frl xs) => some (!xs.isEmpty)
    | _ => none
def dTru (f : DF) : DFb := fun ρ m => (f ρ m).bind fun d m1 => match truD d m1 with
  | some b => .ok b m1
  | none => .stk
theorem reps_empty {ds : List D} {vs : List V} (r : Reps K ι n H ds vs) : vs.isEmpty = ds.isEmpty := by
  have := r.length
  cases ds <;> cases vs <;> first | rfl | simp at this
theorem tru_rep {m : Mem} (M : RelM K w ι m H) {d : D} {v : V} {b : Bool} (h : truD d m = some b) (r : Rep K ι m.length H d v) : TruV K v H b := by
  cases d with
  | non => cases h; obtain rfl := r; exact rfl
  | bl c => cases h; obtain rfl := r; exact rfl
  | int i => cases h; obtain rfl := r; exact rfl
  | str x =>
    obtain rfl := r
    unfold truD at h
    by_cases hz : x.length ≤ sizeLine
    · simp only [hz, if_true] at h
      cases h
      exact ⟨hz, rfl⟩
    · simp only [hz, if_false] at h
      cases h
  | tup xs =>
    cases h
    obtain ⟨a, vs, rfl, h1, h2⟩ := r
    exact .inr (.inl ⟨vs, h1.sq, by rw [reps_empty h2]⟩)
  | ref l =>
    obtain ⟨_, rfl⟩ := r
    unfold truD at h
    cases h1 : m[l]? with
    | none => simp only [h1] at h; cases h
    | some o =>
      cases o with
      | lst xs =>
        simp only [h1] at h; cases h
        obtain ⟨vs, h2, h3⟩ := list_of M (.inl h1)
        exact .inl ⟨vs, h2, by rw [reps_empty h3]⟩
      | frl xs =>
        simp only [h1] at h; cases h
        obtain ⟨vs, h2, h3⟩ := list_of M (.inr h1)
        exact .inl ⟨vs, h2, by rw [reps_empty h3]⟩
      | _ => simp only [h1] at h; cases h
theorem dt_tru {e : Expr} {f : DF} (h : DE X W e f) (he : ∀ whole, isTrue e X.env whole = (do let v ← whole; standAt e.pos; holding [v] (truthy v)) := by intro _; rfl) : DT X W e (dTru f) :=
  pt_imp (pt_truth h he) fun σ H Q q => by
    obtain ⟨ι, ρ, m, E, M, q⟩ := q
    refine ⟨ι, ρ, m, E, M, fin_then q fun ι1 m1 H1 d S1 M1 q1 v rv => ?_⟩
    cases e1 : truD d m1 with
    | none => simp only [e1] at q1; exact q1.elim
    | some b =>
      simp only [e1] at q1
      exact ⟨b, tru_rep M1 e1 rv, fin_nowB (W := W) (σ := σ) (b := b) (m := m1) (Q := Q) q1 M1⟩

/-! ### xs[::-1] of a list -/
def opRevL : O1 := fun d m => match d with
  | .ref l => match seqOf m (.ref l) with
    | some xs => .ok (.ref m.length) (m ++ [.lst xs.reverse])
    | none => .stk
  | _ => .stk
theorem de_revL {e : Expr} {f : DF} {k : Nat} {p1 p2 p3 pos : Pos} (he : DE X W e f) : DE X W (.Subscript e (.Slice none none (some (.UnaryOp .USub (.Constant (.int 1) k p1) p2)) p3) pos) (dUn opRevL f) := pe_imp (pe_revL he) fun σ H Q h => by
  obtain ⟨ι, ρ, m, e, M, q⟩ := h
  refine ⟨ι, ρ, m, e, M, fin_then q fun ι1 m1 H1 d S1 M1 q1 v rv => ?_⟩
  cases d with
  | ref l =>
    cases e1 : seqOf m1 (.ref l) with
    | none => simp only [opRevL, e1] at q1; exact q1.elim
    | some xs =>
      simp only [opRevL, e1] at q1
      obtain ⟨a, vs, rfl, h1, h2⟩ := seqOf_sq M1 e1 rv
      exact ⟨a, vs, rfl, h1, fin_lst M1 h2.reverse q1⟩
  | _ => exact q1.elim

/-! ### max, min of a list of ints -/
def bestI (f : Int → Int → Int) : List Int → Option Int
  | [] => none
  | i :: is => some (is.foldl f i)
def opBest (f : Int → Int → Int) : O1 := fun d m => match d with
  | .ref l => match seqOf m (.ref l) with
    | some xs => match intsOf xs with
      | some ns => match bestI f ns with
        | some i => .ok (.int i) m
        | none => .stk
      | none => .stk
    | none => .stk
  | _ => .stk
theorem fold_max : ∀ (is : List Int) (i : Int), (is.foldl max i = i ∨ is.foldl max i ∈ is) ∧ i ≤ is.foldl max i ∧ ∀ y ∈ is, y ≤ is.foldl max i
  | [], i => ⟨.inl rfl, Int.le_refl _, fun y h => by cases h⟩
  | j :: js, i => by
    obtain ⟨h1, h2, h3⟩ := fold_max js (max i j)
    refine ⟨?_, Int.le_trans (Int.le_max_left i j) h2, fun y hy => ?_⟩
    · rcases h1 with h1 | h1
      · rw [List.foldl_cons, h1]
        rcases Int.le_total i j with z | z
        · exact .inr (by rw [Int.max_eq_right z]; exact List.mem_cons_self)
        · exact .inl (Int.max_eq_left z)
      · exact .inr (List.mem_cons_of_mem _ h1)
    · rcases List.mem_cons.mp hy with rfl | hy
      · exact Int.le_trans (Int.le_max_right i y) h2
      · exact h3 y hy
theorem fold_min : ∀ (is : List Int) (i : Int), (is.foldl min i = i ∨ is.foldl min i ∈ is) ∧ is.foldl min i ≤ i ∧ ∀ y ∈ is, is.foldl min i ≤ y
  | [], i => ⟨.inl rfl, Int.le_refl _, fun y h => by cases h⟩
  | j :: js, i => by
    obtain ⟨h1, h2, h3⟩ := fold_min js (min i j)
    refine ⟨?_, Int.le_trans h2 (Int.min_le_left i j), fun y hy => ?_⟩
    · rcases h1 with h1 | h1
      · rw [List.foldl_cons, h1]
        rcases Int.le_total i j with z | z
        · exact .inl (Int.min_eq_left z)
        · exact .inr (by rw [Int.min_eq_right z]; exact List.mem_cons_self)
      · exact .inr (List.mem_cons_of_mem _ h1)
    · rcases List.mem_cons.mp hy with rfl | hy
      · exact Int.le_trans h2 (Int.min_le_right i y)
      · exact h3 y hy
abbrev opMax : O1 := opBest max
abbrev opMin : O1 := opBest min
theorem best_ok {f : Int → Int → Int} {r : List V → Hp → VK → Prop} (hr : ∀ (a : Addr) (H : Hp) (i : Int) (is : List Int) (Q : VK), SqL K H a ((i :: is).map V.int) → Q (.int (is.foldl f i)) H → r [V.ref a] H Q) : DCa K w mg W r (fn1 (opBest f)) := dca1 fun σ ι m H x d Q M rx q => by
  cases d with
  | ref l =>
    cases e1 : seqOf m (.ref l) with
    | none => simp only [opBest, e1] at q; exact q.elim
    | some xs =>
      cases e2 : intsOf xs with
      | none => simp only [opBest, e1, e2] at q; exact q.elim
      | some ns =>
        cases ns with
        | nil => simp only [opBest, e1, e2, bestI] at q; exact q.elim
        | cons i is =>
          simp only [opBest, e1, e2, bestI] at q
          obtain ⟨a, vs, rfl, h1, h2⟩ := seqOf_sq M e1 rx
          obtain rfl := ints_of e2 h2
          exact hr a H i is Q h1 (fin_now (α := D) q M _ rfl)
  | _ => exact q.elim
theorem dca_max : DCa K w mg W (rMax K) (fn1 opMax) := best_ok fun a H i is Q h q => ⟨a, i :: is, rfl, h, Nat.succ_pos _, fun m hm hall => by
  obtain ⟨h1, h2, h3⟩ := fold_max is i
  have e : m = is.foldl max i := by
    refine Int.le_antisymm ?_ (hall _ ?_)
    · rcases List.mem_cons.mp hm with rfl | hm
      · exact h2
      · exact h3 m hm
    · rcases h1 with h1 | h1
      · rw [h1]; exact List.mem_cons_self
      · exact List.mem_cons_of_mem _ h1
  rw [e]; exact q⟩
theorem dca_min : DCa K w mg W (rMin K) (fn1 opMin) := best_ok fun a H i is Q h q => ⟨a, i :: is, rfl, h, Nat.succ_pos _, fun m hm hall => by
  obtain ⟨h1, h2, h3⟩ := fold_min is i
  have e : m = is.foldl min i := by
    refine Int.le_antisymm (hall _ ?_) ?_
    · rcases h1 with h1 | h1
      · rw [h1]; exact List.mem_cons_self
      · exact List.mem_cons_of_mem _ h1
    · rcases List.mem_cons.mp hm with rfl | hm
      · exact h2
      · exact h3 m hm
  rw [e]; exact q⟩

/-! ### {} -/
def dNewD : DF := fun _ m => .ok (.ref m.length) (m ++ [.dct []])
theorem de_newD {pos : Pos} : DE X W (.Dict [] [] pos) dNewD := pe_imp pe_dnewK fun σ H Q h p hp => by
  obtain ⟨ι, ρ, m, e, M, q⟩ := h
  have hl : (m ++ [MO.dct []]).length = m.length + 1 := by simp
  have S : Step ι m.length H (more ι m.length p) (m ++ [MO.dct []]).length (upd H p (.dK [])) := by rw [hl]; exact Step.new hp
  refine q _ _ S (M.new hp (.inl ⟨[], upd_same, .nil⟩)) _ ⟨by rw [hl]; exact Nat.lt_succ_self _, by rw [more_new]⟩

/-! ### a, b, .. = a list -/
def γLst (n : Nat) (δ : γs) : D → En → Mem → R En := fun d ρ m => match d with
  | .ref l => match seqOf m (.ref l) with
    | some ds => if ds.length = n then δ ds ρ m else .stk
    | none => .stk
  | _ => .stk
theorem gok_lst {gs : TGs} {δ : γs} {sl : List Nat} (n : Nat) (hs : GsOk K w mg W gs δ sl) : GOk K w mg W (gLst K n gs) (γLst n δ) sl := fun σ ι ρ m H d v Q e M r q => by
  cases d with
  | ref l =>
    have q' : fin K w mg W σ ι m.length H _ (match seqOf m (.ref l) with | some ds => if ds.length = n then δ ds ρ m else .stk | none => .stk) := q
    cases e1 : seqOf m (.ref l) with
    | none => rw [e1] at q'; exact q'.elim
    | some ds =>
      rw [e1] at q'
      dsimp only at q'
      obtain ⟨a, vs, rfl, h1, h2⟩ := seqOf_sq M e1 r
      by_cases hn : ds.length = n
      · rw [if_pos hn] at q'
        exact ⟨a, vs, rfl, h1, by rw [h2.length]; exact hn, hs σ ι ρ m H ds vs Q e M h2 q'⟩
      · rw [if_neg hn] at q'
        exact q'.elim
  | _ => exact q.elim

/-! ### methods -/
section
variable {o e : Expr} {es : List Expr} {name : Str} {apos cpos : Pos} {T id : String} {r : V → List V → Hp → VK → Prop} {c : D → Mem → Bool} {op : D → List D → Mem → R D} {f : DF} {fs : DFs}
theorem de_bm0 (pa : PlainAttrs T) (slot : Slot T name id) (hty : typeOf (.builtin id) = pure (.type "method_descriptor")) (hm : MtR X id r) (ht : DTy X.K X.w T c) (hd : DMt X.K X.w X.mg W T r op) (ho : DE X W o f)
    (hbase : attributeBase o name X.env (eval o X.env) = eval o X.env := by rfl) (hline : (apos.endLine == cpos.line) = true := by rfl) : DE X W (.Call (.Attribute o name apos) [] [] cpos) (dMt0 c op f) :=
  pe_imp (pe_bm0 pa slot hty hm ho hbase hline) fun _ _ _ h => rd_mt0 ht hd h
theorem de_bm (pa : PlainAttrs T) (slot : Slot T name id) (hty : typeOf (.builtin id) = pure (.type "method_descriptor")) (hm : MtR X id r) (ht : DTy X.K X.w T c) (hd : DMt X.K X.w X.mg W T r op) (ho : DE X W o f) (ha : DA X W (e :: es) fs)
    (hbase : attributeBase o name X.env (eval o X.env) = eval o X.env := by rfl)
    (hfew : ((backTo cpos (starEach (e :: es) X.env)).all (fun x => !x.1) && (backToKw cpos (keywordEach [] X.env)).all (fun x => x.1.isSome)
      && decide ((e :: es).length + ([] : List Keyword).length + (if ([] : List Keyword).isEmpty then 0 else 1) < 30)) = true := by rfl)
    (hline : (apos.endLine == cpos.line) = true := by rfl) (hs : starEach (e :: es) X.env = (false, eval e X.env) :: starEach es X.env := by rfl) (hplain : (backTo cpos (starEach es X.env)).any (·.1) = false := by rfl) :
    DE X W (.Call (.Attribute o name apos) (e :: es) [] cpos) (dMt c op f fs) :=
  pe_imp (pe_bm pa slot hty hm ho ha hbase hfew hline hs hplain) fun _ _ _ h => rd_mt ht hd h
end

/-! ### calls by name, nothing by position -/
section
variable {k : Nat} {f : Addr} {fd : FuncData} {ps ks : List Str} {F : List D → Mem → R D} {x : Str} {p pos : Pos} {kws : List Keyword} {fs : DFs}
def permL {α : Type} (ix : List Nat) (l : List α) : List α := if l.length = ix.length then ix.filterMap (l[·]?) else []
def DK (X : Cx) (W : WX) (kws : List Keyword) (f : DFs) : Prop := PK X kws (rdA X.K X.w X.mg W f)
theorem pk_imp {kws : List Keyword} {t t' : TA} (h : PK X kws t) (i : ∀ σ H Q, t' σ H Q → t σ H Q) : PK X kws t' := ⟨fun pos pins s σ H Q I hq => h.run pos pins s σ H Q I (i σ H Q hq)⟩
theorem dk_nil : DK X W [] dNil := pk_imp pk_nil fun σ H Q h => by
  obtain ⟨ι, ρ, m, E, M, q⟩ := h
  exact fin_now q M [] Reps.nil
theorem dk_cons {nm : Option Str} {kpos : Pos} {e : Expr} {f : DF} {g : DFs} (ha : DE X W e f) (hr : DK X W kws g) : DK X W (⟨nm, e, kpos⟩ :: kws) (dCons f g) :=
  pk_imp (pk_cons ha hr) fun σ H Q h => by
    obtain ⟨ι, ρ, m, E, M, q⟩ := h
    refine ⟨ι, ρ, m, E, M, fin_then q fun ι1 m1 H1 d S1 M1 q1 v rv => ?_⟩
    refine ⟨ι1, ρ, m1, E.step S1, M1, fin_then q1 fun ι2 m2 H2 ds S2 M2 q2 vs rvs => ?_⟩
    exact fin_now q2 M2 (v :: vs) (Reps.cons (rv.step S2) rvs)
/-- how a call by names alone binds -/
structure KwOk (K : PySem.W.Frag) (fd : FuncData) (ps ks : List Str) (ix : List Nat) : Prop where
  to : ∀ (s : Shared) (ws : List Value), K.In s.heap → ws.length = ix.length → (permL ix ws).length = ps.length → BindsTo s fd ⟨[], ks.zip ws⟩ (ps.zip (permL ix ws))
theorem permL_reps {ds : List D} {vs : List V} (r : Reps K ι n H ds vs) (ix : List Nat) : Reps K ι n H (permL ix ds) (permL ix vs) := by
  unfold permL
  rw [r.length]
  split
  · rename_i hl
    clear hl
    induction ix with
    | nil => exact Reps.nil
    | cons i ix ih =>
      rw [List.filterMap_cons, List.filterMap_cons]
      cases e : ds[i]? with
      | none =>
        have : vs[i]? = none := by rw [List.getElem?_eq_none_iff] at e ⊢; rw [r.length]; exact e
        rw [this]; exact ih
      | some d =>
        obtain ⟨v, h1, h2⟩ := r.get e
        rw [h1]
        exact Reps.cons h2 ih
  · exact Reps.nil
theorem permL_vals {vs : List V} {us : List Value} (r : Vals vs us) (ix : List Nat) : Vals (permL ix vs) (permL ix us) := by
  unfold permL
  rw [r.length]
  split
  · rename_i hl
    clear hl
    induction ix with
    | nil => exact .nil
    | cons i ix ih =>
      rw [List.filterMap_cons, List.filterMap_cons]
      have key : RelO (vs[i]?) (us[i]?) := by
        clear ih
        induction r generalizing i with
        | nil => simp; exact trivial
        | cons h t ih =>
          cases i with
          | zero => exact h
          | succ i => simpa using ih i
      cases e : vs[i]? with
      | none =>
        rw [e] at key
        cases e2 : us[i]? with
        | none => exact ih
        | some u => rw [e2] at key; exact key.elim
      | some v =>
        rw [e] at key
        cases e2 : us[i]? with
        | none => rw [e2] at key; exact key.elim
        | some u => rw [e2] at key; exact .cons key ih
  · exact .nil
def dAppK (F : List D → Mem → R D) (ix : List Nat) (fs : DFs) : DF := fun ρ m => (fs ρ m).bind fun ds m1 => if ds.length = ix.length then F (permL ix ds) m1 else .stk
theorem de_callK (G : Fn X k f fd ps F) (hr : Room k X.A) (hg : Gl X x) (hm : X.mg x = some (.ref f)) (hk : PySem.W.keepIn X.K (.ref f) = true) {ix : List Nat}
    (hb : KwOk X.K fd ps ks ix) (hx : Pass X W) (hkw : DK X W kws fs) (hdb : (x == ("__debug__" : Str)) = false := by decide) (hall : (backToKw pos (keywordEach kws X.env)).all (·.1.isSome) = true := by rfl) (hks : (backToKw pos (keywordEach kws X.env)).filterMap (·.1) = ks := by rfl)
    (hpl : ((backTo pos (starEach [] X.env)).any (·.1) || (backToKw pos (keywordEach kws X.env)).any (·.1.isNone)) = false := by rfl) : DE X W (.Call (.Name x p) [] kws pos) (dAppK F ix fs) := by
  refine ⟨fun pins s σ H Q I h => ?_⟩
  refine wpAny_Call_Name_kw (ld_glob I hg hm ?_ hdb)
  obtain ⟨ι, ρ, m, e, M, q⟩ := h
  refine PySem.W.callWith_KW0 (h₀ := X.base) I.ok.mod.kin hk hall (thn (hkw.run pos pins s σ H (fun vs H1 => ∃ ι1 m1 ds, Reps X.K ι1 m1.length H1 ds vs ∧ RelM X.K X.w ι1 m1 H1 ∧ fin X.K X.w X.mg W σ ι1 m1.length H1 (pV X.K Q) (if ds.length = ix.length then F (permL ix ds) m1 else .stk)) I
    ⟨ι, ρ, m, e, M, fin_then q fun ι1 m1 H1 ds S1 M1 q1 vs rv => ⟨ι1, m1, ds, rv, M1, q1⟩⟩) fun ws s2 ⟨zs, H2, I2, rz, ι1, m1, ds, rv, M1, q1⟩ => ⟨I2.kIn, ?_⟩) hpl
  rw [hks]
  by_cases hl : ds.length = ix.length
  · rw [if_pos hl] at q1
    have hl2 : (permL ix ds).length = ps.length := by
      by_cases hl2 : (permL ix ds).length = ps.length
      · exact hl2
      · rw [G.len _ _ hl2] at q1
        exact q1.elim
    have hz : zs.length = ix.length := rv.length.trans hl
    have hw : ws.length = ix.length := by rw [← Paired.length rz]; exact hz
    have r2 := permL_reps rv ix
    have v2 := permL_vals rz ix
    have hwl : (permL ix ws).length = ps.length := by rw [← Paired.length v2, r2.length]; exact hl2
    refine wpAny_call (codeAny_mono (G.ok.run X.A X.stack s2 H2 ⟨[], ks.zip ws⟩ (permL ix ws) (permL ix zs) Q (WE W σ) hr I2.env0 (hb.to s2 ws I2.kIn hw hwl) v2 ⟨by rw [r2.length]; exact hl2, ι1, permL ix ds, m1, r2, M1, fin_slots q1⟩) fun r s' hq => ?_)
    cases r with
    | error e => exact hx σ pins H2 s2 e s' I2 hq
    | ok fl =>
      cases fl with
      | ret u => exact I2.after hq
      | next => exact False.elim hq
      | brk => exact False.elim hq
      | cont => exact False.elim hq
  · rw [if_neg hl] at q1
    exact q1.elim
end
end
end DL
/-! The D layer: enumerate over a tuple, list(enumerate(..)) of a list or tuple. -/
namespace DL
open PySem PySem.Spec L2 PyProof.Rows

theorem enum_no_len : typeLookup (.type "enumerate") "__len__" = pure none := by rw [typeLookup_type, builtinLookup_eq_fast]; kernel_rfl
theorem enum_no_hint : typeLookup (.type "enumerate") "__length_hint__" = pure none := by rw [typeLookup_type, builtinLookup_eq_fast]; kernel_rfl

theorem meets_enum1 {v : Value} {o : Obj} {B : Heap → Prop} (b : Begins v o B) :
    Meets (Builtin.«enumerate.__new__» ⟨[.type "enumerate", v], []⟩) (fun _ R s => B s.heap ∧
      R (.ok (.ret (.ref (s.heap.push o).objs.size))) { s with heap := (s.heap.push o).push { cls := .type "enumerate", data := .fields #[.none, .bool false, .ref s.heap.objs.size, rawInt 0, .none, .none] } }) :=
  .of_wp fun prog w A R s z => by
    obtain ⟨hp, g, d, tk, os⟩ := s
    obtain ⟨z1, z⟩ := z
    have hsub := sub_enumerate
    have itr : ∀ {A' : Around} {E : Value → Shared → Prop} {Q : Value → Shared → Prop}, Q (.ref hp.objs.size) ⟨hp.push o, g, d, tk, os⟩ → wpAny (model prog w) A' (pyIter v) Q E ⟨hp, g, d, tk, os⟩ :=
      fun q => b.iter prog w _ _ ⟨hp, g, d, tk, os⟩ _ z1 q
    wp_walk using itr
    refine wpAny_stack_any fun st => wpAny_pure ?_
    split
    · rename_i c _ _ _ _ _
      cases (c == Value.type "enumerate") <;> (wp_walk using itr) <;> exact ⟨_, rfl, z⟩
    · wp_walk using itr
      exact ⟨_, rfl, z⟩
section
variable {prog : Program} {w : World} {A : Around} {E : Value → Shared → Prop} {s : Shared}
theorem enum_call1 {v : Value} {o : Obj} {B : Heap → Prop} {Q : Value → Shared → Prop} (b : Begins v o B) (z : B s.heap)
    (h : ∀ h', IsEnum h' (s.heap.objs.size + 1) s.heap.objs.size 0 .none → h'.get? s.heap.objs.size = some o → h'.objs.size = s.heap.objs.size + 2 →
      (∀ b o, s.heap.get? b = some o → h'.get? b = some o) → Q (.ref (s.heap.objs.size + 1)) { s with heap := h' }) :
    wpAny (model prog w) A (call (.type "enumerate") [v]) Q E s := by
  refine callType_new F.called_enumerate (by decide) (F.typeCall_enumerate_1 _) (F.newCall_enumerate_1 _) (fun obj => F.args_object_init_2 obj _) F.entry_enumerate_new (meets_enum1 b) ⟨z, ?_⟩
  have hz : (s.heap.push o).objs.size = s.heap.objs.size + 1 := Heap.size_push ..
  show _ ∧ _
  rw [hz]
  have he : IsEnum ((s.heap.push o).push { cls := .type "enumerate", data := .fields #[.none, .bool false, .ref s.heap.objs.size, rawInt 0, .none, .none] }) (s.heap.objs.size + 1) s.heap.objs.size 0 .none := by
    have := Heap.get?_push_size (s.heap.push o) (o := { cls := .type "enumerate", data := .fields #[.none, .bool false, .ref s.heap.objs.size, rawInt 0, .none, .none] }) rfl
    rw [hz] at this
    exact this
  exact ⟨⟨_, he, rfl⟩, h _ he (Heap.get?_push_of_some _ (Heap.get?_push_size _ b.free)) (by rw [Heap.size_push, hz]) fun b o x => Heap.get?_push_of_some _ (Heap.get?_push_of_some _ x)⟩

/-- one more pair of an enumerate whose last pair is still there -/
theorem enum_heldC {e it T : Addr} {fp : List Addr} {n i : Nat} {c : Int} {P : Nat → Value → Prop} {St : Nat → Heap → Prop} {old : Value} {f : Bool} {oT : Obj} {Q : Value → Shared → Prop}
    (D : Draws prog w A it fp n P St) (he : IsEnumHeld s.heap e it c old T f) (hT : s.heap.get? T = some oT) (hTe : T ≠ e) (hTi : T ≠ it) (hst : St i s.heap) (hlt : i < n) (hne : e ≠ it) (hef : e ∉ fp)
    (hQ : ∀ x h' tk, P i x → IsEnumHeld h' e it (c + 1) old T true → St (i + 1) h' →
      h'.get? s.heap.objs.size = some { cls := .type "tuple", data := .seq #[.int c tk, x] } → h'.objs.size = s.heap.objs.size + 1 →
      (∀ b o, b ≠ e → b ≠ it → s.heap.get? b = some o → h'.get? b = some o) → Q (.ref s.heap.objs.size) { s with heap := h', toks := tk + 1 }) :
    wpAny (model prog w) A (Builtin.«enumerate.__next__» ⟨[.ref e], []⟩) (fun fin s' => ∃ v, fin = .done (.ret v) ∧ Q v s') E s := by
  obtain ⟨hp, g, d, tk0, os⟩ := s
  show wpAny _ _ (field (.ref e) 2 >>= _) _ _ _
  refine wpAny_bind (wpAny_field he rfl (x := .ref it) rfl ?_)
  refine wpAny_bind (D.item i _ _ _ hlt hst fun x h1 tk hPx hit1 hs1 => ?_)
  replace hs1 : Heap.SameBut it hp h1 := hs1
  have he1 : IsEnumHeld h1 e it c old T f := (hs1.2 e hne).trans he
  show wpAny _ _ (field (.ref e) 3 >>= _) _ _ ⟨h1, g, d, tk, os⟩
  refine wpAny_bind (wpAny_field he1 rfl (x := rawInt c) rfl ?_)
  show wpAny _ _ (field (.ref e) 4 >>= _) _ _ ⟨h1, g, d, tk, os⟩
  refine wpAny_bind (wpAny_field he1 rfl (x := .none) rfl ?_)
  show wpAny _ _ (mkInt c >>= _) _ _ ⟨h1, g, d, tk, os⟩
  refine wpAny_bind (wpAny_mkInt ?_)
  show wpAny _ _ (setField (.ref e) 3 (rawInt (c + 1)) >>= _) _ _ ⟨h1, g, d, tk + 1, os⟩
  refine wpAny_bind (wpAny_setField_rec he1 (by simp) fun h2 he2 hs2 => ?_)
  replace hs2 : Heap.SameBut e h1 h2 := hs2
  replace he2 : IsEnumHeld h2 e it (c + 1) old T f := he2
  show wpAny _ _ (setField (.ref e) 4 .none >>= _) _ _ ⟨h2, g, d, tk + 1, os⟩
  refine wpAny_bind (wpAny_setField_rec he2 (by simp) fun h3 he3 hs3 => ?_)
  replace hs3 : Heap.SameBut e h2 h3 := hs3
  replace he3 : IsEnumHeld h3 e it (c + 1) old T f := he3
  show wpAny _ _ (newTuple [.int c tk, x] >>= _) _ _ ⟨h3, g, d, tk + 1, os⟩
  refine wpAny_bind (wpAny_newTuple ?_)
  have he4 : IsEnumHeld (h3.push { cls := .type "tuple", data := .seq #[.int c tk, x] }) e it (c + 1) old T f := Heap.get?_push_of_some _ he3
  generalize hh4 : h3.push { cls := .type "tuple", data := .seq #[.int c tk, x] } = h4 at he4
  have hsz : h3.objs.size = hp.objs.size := by rw [hs3.1, hs2.1, hs1.1]
  have hel : e < hp.objs.size := Heap.lt_size he
  have ht4 : h4.get? hp.objs.size = some { cls := .type "tuple", data := .seq #[.int c tk, x] } := by rw [← hh4, ← hsz]; exact Heap.get?_push_size _ rfl
  have hz4 : h4.objs.size = hp.objs.size + 1 := by rw [← hh4, Heap.size_push, hsz]
  have hk4 : ∀ b o, b ≠ e → b ≠ it → hp.get? b = some o → h4.get? b = some o := fun b o hbe hbi hb => by
    rw [← hh4]; exact Heap.get?_push_of_some _ (hs3.extBut b o hbe (hs2.extBut b o hbe (hs1.extBut b o hbi hb)))
  have hit4 : St (i + 1) h4 := D.frame _ _ _ hit1 fun b hb o y => by
    have hbe : b ≠ e := fun q => hef (q ▸ hb)
    rw [← hh4]; exact Heap.get?_push_of_some _ (hs3.extBut b o hbe (hs2.extBut b o hbe y))
  show wpAny _ _ (Builtin.SmallTypes.ownedTupleIsFree (.ref e) >>= _) _ _ ⟨h4, g, d, tk + 1, os⟩
  rw [hsz]
  refine wpAny_bind (wpAny_tupleHeld_enum he4 (hk4 _ _ hTe hTi hT) fun h5 he5 hs5 => ?_)
  replace hs5 : Heap.SameBut e h4 h5 := hs5
  show wpAny _ _ (if false = true then _ else _) _ _ _
  rw [if_neg Bool.false_ne_true]
  refine wpAny_pure ⟨_, rfl, hQ x h5 tk hPx he5 (D.frame _ _ _ hit4 fun b hb o y => hs5.extBut b o (fun q => hef (q ▸ hb)) y) (hs5.extBut _ _ (Nat.ne_of_gt hel) ht4) (by rw [hs5.1, hz4]) fun b o hbe hbi hb => hs5.extBut b o hbe (hk4 b o hbe hbi hb)⟩

/-- an enumerate between two turns, its pairs kept -/
def EnSt (h : Heap) (e it : Addr) (i : Nat) : Prop := (∃ old, IsEnum h e it i old) ∨ ∃ (T : Addr) (f : Bool) (old : Value) (oT : Obj), IsEnumHeld h e it i old T f ∧ h.get? T = some oT ∧ T ≠ e ∧ T ≠ it
theorem EnSt.typeIs {e it : Addr} {i : Nat} (h : EnSt s.heap e it i) : s.TypeIs (.ref e) "enumerate" := by
  rcases h with ⟨old, h⟩ | ⟨T, f, old, oT, h, _⟩
  · exact ⟨_, h, rfl⟩
  · exact ⟨_, h, rfl⟩
theorem EnSt.live {h : Heap} {e it : Addr} {i : Nat} (k : EnSt h e it i) : ∃ o, h.get? e = some o := by
  rcases k with ⟨old, k⟩ | ⟨T, f, old, oT, k, _⟩ <;> exact ⟨_, k⟩
theorem EnSt.keep {h h' : Heap} {e it : Addr} {i : Nat} (k : EnSt h e it i) (S : Addr) (he : e ≠ S) (hk : ∀ b o, b ≠ S → h.get? b = some o → h'.get? b = some o) (hS : ∀ o, h.get? S = some o → ∃ o', h'.get? S = some o') : EnSt h' e it i := by
  rcases k with ⟨old, k⟩ | ⟨T, f, old, oT, k, k2, k3, k4⟩
  · exact .inl ⟨old, hk _ _ he k⟩
  · by_cases hTS : T = S
    · subst hTS
      obtain ⟨o', ho⟩ := hS _ k2
      exact .inr ⟨T, f, old, o', hk _ _ he k, ho, k3, k4⟩
    · exact .inr ⟨T, f, old, oT, hk _ _ he k, hk _ _ hTS k2, k3, k4⟩
theorem en_item {e it : Addr} {fp : List Addr} {n i : Nat} {P : Nat → Value → Prop} {St : Nat → Heap → Prop} {Q : Option Value → Shared → Prop}
    (D : Draws prog w A.in1 it fp n P St) (he : EnSt s.heap e it i) (hst : St i s.heap) (hlt : i < n) (hne : e ≠ it) (hef : e ∉ fp) (hif : it ∈ fp)
    (hQ : ∀ x h' tk, P i x → EnSt h' e it (i + 1) → St (i + 1) h' →
      h'.get? s.heap.objs.size = some { cls := .type "tuple", data := .seq #[.int i tk, x] } → h'.objs.size = s.heap.objs.size + 1 →
      (∀ b o, b ≠ e → b ≠ it → s.heap.get? b = some o → h'.get? b = some o) → Q (some (.ref s.heap.objs.size)) { s with heap := h', toks := tk + 1 }) :
    wpAny (model prog w) A (pyNext (.ref e)) Q E s := by
  have hT := he.typeIs
  have hel : e < s.heap.objs.size := by obtain ⟨_, q⟩ := he.live; exact Heap.lt_size q
  have hil : it < s.heap.objs.size := by obtain ⟨_, q⟩ := D.live _ _ hst; exact Heap.lt_size q
  have e1 : ((i + 1 : Nat) : Int) = (i : Int) + 1 := by omega
  unfold pyNext
  refine wpAny_bind (wpAny_attempt (wpAny_callSpecial?_slot (name := Str.ofString "__next__") hT F.slot_enumerate_next
    (wpAny_call_entry F.slot_enumerate_next hT F.entry_enumerate_next ?_ (F.args_enumerate_next_1 _))))
  rcases he with ⟨old, he⟩ | ⟨T, f, old, oT, he, k2, k3, k4⟩
  · refine enumerate_next_itemC D he hst hlt hne hef fun x h' tk a b c d k q => wpAny_pure (hQ x h' tk a (.inr ⟨s.heap.objs.size, false, x, _, ?_, d, Nat.ne_of_gt hel, Nat.ne_of_gt hil⟩) c d k q)
    rw [e1]; exact b
  · refine enum_heldC D he k2 k3 k4 hst hlt hne hef fun x h' tk a b c d k q => wpAny_pure (hQ x h' tk a (.inr ⟨T, true, old, oT, ?_, q _ _ k3 k4 k2, k3, k4⟩) c d k q)
    rw [e1]; exact b
theorem en_end {e it : Addr} {fp : List Addr} {n : Nat} {P : Nat → Value → Prop} {St : Nat → Heap → Prop} {Q : Option Value → Shared → Prop}
    (D : Draws prog w A.in1 it fp n P St) (he : EnSt s.heap e it n) (hst : St n s.heap) (hQ : ∀ h', Heap.ExtBut it s.heap h' → Q none { s with heap := h' }) : wpAny (model prog w) A (pyNext (.ref e)) Q E s := by
  have hT := he.typeIs
  unfold pyNext
  refine wpAny_bind (wpAny_attempt (wpAny_callSpecial?_slot (name := Str.ofString "__next__") hT F.slot_enumerate_next
    (wpAny_call_entry F.slot_enumerate_next hT F.entry_enumerate_next ?_ (F.args_enumerate_next_1 _))))
  show wpAny _ _ (field (.ref e) 2 >>= _) _ _ _
  have hf : wpAny (model prog w) A.in1 (field (.ref e) 2) (fun v s' => v = .ref it ∧ s' = s) (fun _ _ => False) s := by
    rcases he with ⟨old, he⟩ | ⟨T, f, old, oT, he, _⟩
    · exact wpAny_field he rfl (x := .ref it) rfl ⟨rfl, rfl⟩
    · exact wpAny_field he rfl (x := .ref it) rfl ⟨rfl, rfl⟩
  refine wpAny_bind (wpAny_mono hf (fun v s' hv => ?_) fun _ _ z => z.elim)
  obtain ⟨rfl, rfl⟩ := hv
  refine wpAny_bind (D.done _ _ _ hst fun h' x he' hx' => ?_)
  obtain ⟨o, ho, hc⟩ := hx'
  refine wpAny_bind (wpAny_isInstance (T := "StopIteration") (b := true) ⟨o, ho, hc⟩ isSubtype_stop ?_)
  exact wpAny_pure (hQ _ he')
end

/-! ### list(enumerate(..)), with the state -/
/-- pairs (i, x) at new places -/
inductive Pairs (H : Hp) : Nat → List V → List V → Prop where
  | nil {i} : Pairs H i [] []
  | snoc {i xs ps x T} : Pairs H i xs ps → H T = some (.tup [.int ((i + xs.length : Nat) : Int), x]) → Pairs H i (xs ++ [x]) (ps ++ [.ref T])
theorem Pairs.len {H : Hp} {i : Nat} {xs ps : List V} (h : Pairs H i xs ps) : ps.length = xs.length := by
  induction h with
  | nil => rfl
  | snoc _ _ ih => simp [ih]
theorem Pairs.mono {H H' : Hp} {i : Nat} {xs ps : List V} (h : Pairs H i xs ps) (k : ∀ b t, H b = some (.tup t) → H' b = some (.tup t)) : Pairs H' i xs ps := by
  induction h with
  | nil => exact .nil
  | snoc _ e ih => exact .snoc ih (k _ _ e)
section
variable {X : Cx} {pins : List (Addr × Obj)} {σ : L2.St} {R : Result → Shared → Prop}
theorem not_cell_seq {its : Array Value} {n : Nat} : ∀ v, (Data.seq its n : Data) ≠ .cell v := fun v z => by cases z
/-- the loop of list(..) over an enumerate: xs what the source gives -/
theorem en_loop {A : Around} {e it S : Addr} {fp : List Addr} {us : List Value} {xs : List V} {St : Nat → Heap → Prop} {H0 : Hp} {res : Value}
    (D : Draws X.prog X.w A.in1.in1 it fp us.length (fun i v => us[i]? = some v) St) (rv : Vals xs us) (hne : e ≠ it) (hef : e ∉ fp) (hif : it ∈ fp) (hSf : S ∉ fp) (hSe : S ≠ e) (hSi : S ≠ it) (hz : xs.length ≤ sizeLine)
    (hend : ∀ H' s' ps, Inv X pins σ H' s' → (∀ b o, b ≠ S → H0 b = some o → H' b = some o) → H' S = some (.lst ps) → Pairs H' 0 xs ps → R (.ok (.ret res)) s') :
    ∀ (k i : Nat) (s : Shared) (H : Hp) (ps : List V), us.length - i = k → i ≤ us.length → Inv X pins σ H s → (∀ b ∈ [e, it], FpOk X pins H b) → EnSt s.heap e it i → St i s.heap → H S = some (.lst ps) → Pairs H 0 (xs.take i) ps →
      (∀ b o, b ≠ S → H0 b = some o → H b = some o) → codeAny (model X.prog X.w) A (.builtin "list.extend.loop" ⟨[.ref S, .ref e, res], []⟩) R s := by
  intro k
  induction k with
  | zero =>
    intro i s H ps hk hi I hf he hst hS hp h0
    have hin : i = us.length := by omega
    subst hin
    refine codeAny_builtin F.entry_extend_loop ?_
    rw [Around.under_plainId F.plain_extend_loop _]
    show wpAny _ A.in1 (pyNext (.ref e) >>= _) _ _ s
    refine wpAny_bind (en_end D he hst fun h' eb => wpAny_pure ?_)
    have I2 : Inv X pins σ H { s with heap := h' } := I.turnedL (t' := s.toks) (ch := [e, it]) (fun b o hb q => eb b o (fun z => hb (by simp [z])) q) hf
    rw [← rv.length, List.take_length] at hp
    exact hend H _ ps I2 h0 hS hp
  | succ k ih =>
    intro i s H ps hk hi I hf he hst hS hp h0
    have hlt : i < us.length := by omega
    refine codeAny_builtin F.entry_extend_loop ?_
    rw [Around.under_plainId F.plain_extend_loop _]
    show wpAny _ A.in1 (pyNext (.ref e) >>= _) _ _ s
    refine wpAny_bind (en_item D he hst hlt hne hef hif fun x h' tk hx he' hst' hT hsz hk' => ?_)
    have hlx : i < xs.length := by rw [rv.length]; exact hlt
    have hxv : xs[i]? = some xs[i] := List.getElem?_eq_getElem hlx
    obtain ⟨u, hu, ru⟩ := rv.get hxv
    rw [hx] at hu
    cases hu
    generalize hN : s.heap.objs.size = N at hT hsz
    have hel : e < N := by obtain ⟨_, q⟩ := he.live; rw [← hN]; exact Heap.lt_size q
    have hil : it < N := by obtain ⟨_, q⟩ := D.live _ _ hst; rw [← hN]; exact Heap.lt_size q
    have new : ObjOk X.prog X.w (upd H N (.tup [.int (i : Nat), xs[i]])) h' N (.tup [.int (i : Nat), xs[i]]) := ⟨by show 2 ≤ sizeLine; decide, [.int i tk, x], .cons ⟨_, rfl⟩ (.cons ru .nil), ⟨_, hT, rfl, _, rfl⟩⟩
    have I1 : Inv X pins σ (upd H N (.tup [.int (i : Nat), xs[i]])) { s with heap := h', toks := tk + 1 } :=
      I.turnedNew (ch := [e, it]) (fun b ob hb q => hk' b ob (fun z => hb (by simp [z])) (fun z => hb (by simp [z])) q) hf (by rw [hN]; exact Nat.le_refl _) new
    have hNn : H N = none := I.hok.fresh (by rw [hN]; exact Nat.le_refl _)
    have hSN : S ≠ N := ne_of_none hS hNn
    have hS1 : upd H N (.tup [.int (i : Nat), xs[i]]) S = some (.lst ps) := by rw [upd_ne hSN]; exact hS
    obtain ⟨z, its, c, rl, hl, eS⟩ := I1.lstM hS1
    show wpAny _ A.in1 (updateSeq S (·.push (.ref N)) >>= _) _ _ _
    have hpl : ps.length = i := by rw [hp.len, List.length_take]; omega
    have hil2 : its.length = i := by rw [← hl]; exact hpl
    have hsz1 : its.toArray.size < sizeLine := by rw [List.size_toArray]; rw [← rv.length] at hlt; omega
    refine wpAny_bind ?_
    refine wpAny_updateSeq eS rfl (wpAny_pure ⟨plainId_quiet F.plain_extend_loop _, ?_⟩) (by omega) (by show (its.toArray.push _).size ≤ sizeLine + 1; rw [Array.size_push]; omega)
    have I2 : Inv X pins σ (upd (upd H N (.tup [.int (i : Nat), xs[i]])) S (.lst (ps ++ [.ref N]))) { s with heap := h'.update S (Obj.mapSeq (·.push (.ref N))), toks := tk + 1 } :=
      I1.lset (its' := its ++ [.ref N]) (t' := tk + 1) hS1 eS (by simp) (rl.append (.cons (show RelV (V.ref N) (Value.ref N) from rfl) .nil)) (by rw [List.length_append, List.length_singleton]; rw [← rv.length] at hlt; omega)
    have oth : ∀ b o, b ≠ S → h'.get? b = some o → (h'.update S (Obj.mapSeq (·.push (.ref N)))).get? b = some o := fun b o hb q => (Heap.get?_update_other h' _ (Ne.symm hb)).trans q
    refine ih (i + 1) _ _ (ps ++ [.ref N]) (by omega) (by omega) I2 (fun b hb => ?_) (he'.keep S (Ne.symm hSe) oth fun o q => ⟨_, Heap.get?_update_self _ eS rfl⟩) (D.frame _ _ _ hst' fun b hb o q => oth b o (fun z => hSf (z ▸ hb)) q) upd_same ?_ fun b o hb q => ?_
    · have e' : b = e ∨ b = it := by simpa using hb
      have hbS : b ≠ S := by rcases e' with q | q <;> rw [q]; exact Ne.symm hSe; exact Ne.symm hSi
      have hbN : b ≠ N := by rcases e' with q | q <;> rw [q]; exact Nat.ne_of_lt hel; exact Nat.ne_of_lt hil
      obtain ⟨f0, f1⟩ := hf b hb
      exact ⟨by rw [upd_ne hbS, upd_ne hbN]; exact f0, f1⟩
    · rw [List.take_add_one, hxv]
      show Pairs _ 0 (xs.take i ++ [xs[i]]) _
      refine .snoc (hp.mono fun b t q => ?_) ?_
      · have b1 : b ≠ S := fun z => by rw [z, hS] at q; cases q
        have b2 : b ≠ N := ne_of_none q hNn
        rw [upd_ne b1, upd_ne b2]
        exact q
      · rw [upd_ne (Ne.symm hSN), upd_same, List.length_take, Nat.min_eq_left (Nat.le_of_lt hlx), Nat.zero_add]
    · rw [upd_ne hb, upd_ne (ne_of_none (h0 b o hb q) hNn)]
      exact h0 b o hb q
/-- .. all of list(..) -/
theorem call_list_enum {A : Around} {e it : Addr} {fp : List Addr} {us : List Value} {xs : List V} {St : Nat → Heap → Prop} {s : Shared} {H : Hp} {Q : Value → Shared → Prop} {E : Value → Shared → Prop}
    (D : Draws X.prog X.w A.in1.in1.in1 it fp us.length (fun i v => us[i]? = some v) St) (rv : Vals xs us) (hne : e ≠ it) (hef : e ∉ fp) (hif : it ∈ fp) (hfp : ∀ b ∈ fp, b < s.heap.objs.size) (hz : xs.length ≤ sizeLine)
    (I : Inv X pins σ H s) (hf : ∀ b ∈ [e, it], FpOk X pins H b) (he0 : IsEnum s.heap e it 0 .none) (hst : St 0 s.heap)
    (hend : ∀ H' s' ps p, Inv X pins σ H' s' → H p = none → (∀ b o, H b = some o → H' b = some o) → H' p = some (.lst ps) → Pairs H' 0 xs ps → Q (.ref p) s') :
    wpAny (model X.prog X.w) A (call (.type "list") [.ref e]) Q E s := by
  have he : EnSt s.heap e it 0 := .inl ⟨_, he0⟩
  have hel : e < s.heap.objs.size := by obtain ⟨_, q⟩ := he.live; exact Heap.lt_size q
  have hSf : s.heap.objs.size ∉ fp := fun hm => Nat.lt_irrefl _ (hfp _ hm)
  have hSe : s.heap.objs.size ≠ e := Nat.ne_of_gt hel
  have hSi : s.heap.objs.size ≠ it := fun z => hSf (z ▸ hif)
  have hHS : H s.heap.objs.size = none := I.hok.fresh (Nat.le_refl _)
  refine callType_codes (Q₁ := fun obj s₁ => obj = .ref s.heap.objs.size ∧ s₁ = { s with heap := s.heap.push { cls := .type "list", data := .seq #[] } }) F.called_list (F.typeCall_list_1 _) F.entry_list_init
    (code_list_new _ ⟨rfl, rfl⟩) fun obj s₁ h₁ => ?_
  obtain ⟨rfl, rfl⟩ := h₁
  generalize hSS : s.heap.objs.size = S at *
  have hS : (s.heap.push { cls := .type "list", data := .seq #[] }).get? S = some { cls := .type "list", data := .seq #[] } := by rw [← hSS]; exact Heap.get?_push_size _ rfl
  refine ⟨⟨_, hS, rfl⟩, F.args_list_init_2 _ _, ?_⟩
  show wpAny _ A.in1.in1 (do let old ← Builtin.List.listItems (.ref S); Builtin.List.listUpdate (.ref S) (fun _ => #[]); letGo old.toList.reverse; Builtin.List.listExtendWith (.ref S) (.ref e) .none) _ _ _
  refine wpAny_bind ?_
  unfold Builtin.List.listItems
  refine wpAny_bind (wpAny_seqItems hS rfl (wpAny_pure ?_))
  show wpAny _ A.in1.in1 (updateSeq S (fun _ => #[]) >>= fun _ => letGo (#[] : Array Value).toList.reverse >>= fun _ => Builtin.List.listExtendWith (.ref S) (.ref e) .none) _ _ _
  refine wpAny_bind (wpAny_updateSeq hS rfl ?_)
  have hS2 := Heap.get?_update_self (Obj.mapSeq (fun _ => (#[] : Array Value))) hS rfl
  refine wpAny_bind (wpAny_letGo ?_)
  generalize hh2 : (s.heap.push { cls := .type "list", data := .seq #[] }).update S (Obj.mapSeq (fun _ => (#[] : Array Value))) = h2 at *
  have k2 : ∀ b o, s.heap.get? b = some o → h2.get? b = some o := fun b o q => by
    have hb : S ≠ b := fun z => by rw [← hSS] at z; rw [← z] at q; exact absurd (Heap.lt_size q) (Nat.lt_irrefl _)
    rw [← hh2]
    exact (Heap.get?_update_other _ _ hb).trans (Heap.get?_push_of_some _ q)
  unfold Builtin.List.listExtendWith
  have hty : ({ s with heap := h2 } : Shared).TypeIs (.ref e) "enumerate" := EnSt.typeIs (s := { s with heap := h2 }) (he.keep S (Ne.symm hSe) (fun b o _ q => k2 b o q) fun o q => ⟨_, hS2⟩)
  refine wpAny_bind (wpAny_typeOf hty ?_)
  have h1 : Builtin.List.listSameRef (.ref S) (.ref e) = false := by simp [Builtin.List.listSameRef, hSe]
  have h2' : (Value.type "enumerate" == Value.type "list") = false := by decide
  have h3' : (Value.type "enumerate" == Value.type "tuple") = false := by decide
  simp only [h1, h2', h3', Bool.or_false, Bool.false_eq_true, if_false]
  have hself : ∀ {Q : Value → Shared → Prop} {E : Value → Shared → Prop}, Q (.ref e) { s with heap := h2 } → wpAny (model X.prog X.w) A.in1.in1 (pyIter (.ref e)) Q E { s with heap := h2 } := fun {Q E} q => by
    exact wpAny_pyIter_enum (k2 _ _ he0) q
  refine wpAny_bind (hself ?_)
  refine wpAny_bind (wpAny_holding ?_)
  unfold Builtin.List.listLengthHint
  refine wpAny_bind (wpAny_specialOf hty enum_no_len ?_)
  show wpAny _ A.in1.in1 (specialOf (Value.ref e) (Str.ofString "__length_hint__") >>= _) _ _ _
  refine wpAny_bind (wpAny_specialOf hty enum_no_hint ?_)
  refine wpAny_pure ?_
  show wpAny _ A.in1.in1 (rule "list.extend.makes-room" >>= fun _ => Builtin.List.listTouch (.ref S) >>= fun _ =>
    again (.builtin "list.extend.loop" ⟨[.ref S, .ref e, .none], []⟩)) _ _ _
  refine wpAny_bind (wpAny_rule ?_)
  refine wpAny_bind ?_
  show wpAny _ A.in1.in1 (updateSeq S (·.push .none) >>= fun _ => updateSeq S (·.pop)) _ _ _
  refine wpAny_bind (wpAny_updateSeq hS2 rfl ?_)
  have hS3 := Heap.get?_update_self (Obj.mapSeq (·.push Value.none)) hS2 rfl
  refine wpAny_updateSeq (hz := by seq_fits) hS3 rfl ?_
  have hS4 := Heap.get?_update_self (Obj.mapSeq (·.pop)) hS3 rfl
  generalize hh4 : (h2.update S (Obj.mapSeq (·.push Value.none))).update S (Obj.mapSeq (·.pop)) = h4 at *
  have k4 : ∀ b o, s.heap.get? b = some o → h4.get? b = some o := fun b o q => by
    have hb : S ≠ b := fun z => by rw [← hSS] at z; rw [← z] at q; exact absurd (Heap.lt_size q) (Nat.lt_irrefl _)
    rw [← hh4]
    exact (Heap.get?_update_other _ _ hb).trans ((Heap.get?_update_other _ _ hb).trans (k2 b o q))
  have I4 : Inv X pins σ (upd H S (.lst [])) { s with heap := h4 } := I.laid (a := S) (o := .lst []) (t' := s.toks) k4 (by rw [hSS]; exact Nat.le_refl _) ⟨Nat.zero_le _, [], _, .nil, hS4⟩
  have c1 : ∀ H' s' ps, Inv X pins σ H' s' → (∀ b o, b ≠ S → upd H S (.lst []) b = some o → H' b = some o) → H' S = some (.lst ps) → Pairs H' 0 xs ps → wants (fun r s₂ => r = Value.none ∧ Q (.ref S) s₂) E (.ok (.ret .none)) s' := fun H' s' ps I' k' hS' hp =>
    ⟨rfl, hend H' s' ps S I' hHS (fun b o q => k' b o (ne_of_none q hHS) (by rw [upd_ne (ne_of_none q hHS)]; exact q)) hS' hp⟩
  have c2 : ∀ b ∈ [e, it], FpOk X pins (upd H S (.lst [])) b := fun b hb => by
    have e' : b = e ∨ b = it := by simpa using hb
    have hbS : b ≠ S := by rcases e' with q | q <;> rw [q]; exact Ne.symm hSe; exact Ne.symm hSi
    obtain ⟨f0, f1⟩ := hf b hb
    exact ⟨by rw [upd_ne hbS]; exact f0, f1⟩
  have c3 : Pairs (upd H S (.lst [])) 0 (xs.take 0) [] := by rw [List.take_zero]; exact .nil
  exact wpAny_pure ⟨plainId_quiet F.plain_extend_loop _, en_loop (H0 := upd H S (.lst [])) D rv hne hef hif hSf hSe hSi hz c1 us.length 0 _ (upd H S (.lst [])) [] (by omega) (Nat.zero_le _) I4 c2
    (he.keep S (Ne.symm hSe) (fun b o _ q => k4 b o q) fun o q => ⟨_, hS4⟩) (D.frame _ _ _ hst fun b _ o q => k4 b o q) upd_same c3 (fun _ _ _ q => q)⟩

/-! ### the rules -/
variable {W : WX} {K : PySem.W.Frag} {w : World} {mg : Str → Option Value}
theorem size_new {I : Inv X pins σ H s} : True := trivial
/-- list(enumerate(e)), e a list or a tuple -/
def tLE (K : PySem.W.Frag) (te : TE) : TE := fun σ H Q => te σ H fun x H1 => ∃ a xs, x = .ref a ∧ xs.length ≤ sizeLine ∧ (SqL K H1 a xs ∨ SqT K H1 a xs) ∧
  ∀ p H2 ps, H1 p = none → (∀ b o, H1 b = some o → H2 b = some o) → H2 p = some (.lst ps) → Pairs H2 0 xs ps → Q (.ref p) H2
theorem pe_listEnum {e : Expr} {te : TE} {p1 p2 pos pos2 : Pos} (hc : X.calm = true) (hg : Gl X "enumerate") (hm : X.mg "enumerate" = none) (hg2 : Gl X "list") (hm2 : X.mg "list" = none) (he : PE X e te) (hs : starEach [e] X.env = [(false, eval e X.env)] := by rfl)
    (hs2 : starEach [.Call (.Name "enumerate" p1) [e] [] pos2] X.env = [(false, eval (.Call (.Name "enumerate" p1) [e] [] pos2) X.env)] := by rfl) :
    PE X (.Call (.Name "list" p2) [.Call (.Name "enumerate" p1) [e] [] pos2] [] pos) (tLE X.K te) := by
  refine ⟨fun pins s σ H Q I h => ?_⟩
  refine Call_ (ld_blt I hg2 hm2 PyProof.Rows.Boot.«list» (PyProof.Rows.callWith_type1 ?_ hs2 rfl) (by decide) (by decide))
  rw [hs2]
  show wpAny _ _ (spliced [(false, eval (.Call (.Name "enumerate" p1) [e] [] pos2) X.env)]) _ _ _
  refine Calls.spliced_cons ?_
  refine Call_ (ld_blt (I.tok _) hg hm boot_enumerate (PyProof.Rows.callWith_type1 ?_ hs rfl) (by decide) (by decide))
  rw [hs]
  refine Calls.spliced_cons (thn (he.run pins _ σ H _ ((I.tok _).tok _) h) fun u s1 ⟨x, H1, I1, r1, a, xs, ex, hz, hq, q⟩ => ?_)
  subst ex
  obtain rfl : u = Value.ref a := r1
  refine Calls.spliced_nil ?_
  have hh := I1.ok.hd hc
  have fin : ∀ (o : Obj) (B : Heap → Prop) (St : Addr → Nat → Heap → Prop) (us : List Value), Begins (.ref a) o B → B s1.heap → Vals xs us → a < s1.heap.objs.size →
      (∀ it h', h'.get? it = some o → (∀ b u, s1.heap.get? b = some u → h'.get? b = some u) → St it 0 h') → (∀ it, a ≠ it → Draws X.prog X.w X.A.in1.in1.in1 it [it, a] us.length (fun i v => us[i]? = some v) (St it)) →
      wpAny (model X.prog X.w) X.A (call (.type "enumerate") [.ref a]) (fun v s₁ => wpAny (model X.prog X.w) X.A (spliced []) (fun vs s₂ => wpAny (model X.prog X.w) X.A (call (.type "list") (v :: vs)) (EP X pins σ Q) X.xe s₂) X.xe s₁) X.xe s1 := by
    intro o B St us b z rv hal h0 D
    refine enum_call1 b z fun h' he hit hsz hk => Calls.spliced_nil ?_
    have I2 : Inv X pins σ H1 { s1 with heap := h' } := I1.kept (t' := s1.toks) hk
    have hai : a ≠ s1.heap.objs.size := Nat.ne_of_lt hal
    refine call_list_enum (us := us) (s := { s1 with heap := h' }) (D _ hai) rv (Nat.succ_ne_self _) (fun hm => ?_) (by simp) (fun c hm => ?_) hz I2 (fun c hm => ?_) he (h0 _ _ hit hk) fun H' s' ps p I' hp k1 k2 k3 => ⟨.ref p, H', I', rfl, q p H' ps hp k1 k2 k3⟩
    · have e' : s1.heap.objs.size + 1 = s1.heap.objs.size ∨ s1.heap.objs.size + 1 = a := by simpa using hm
      rcases e' with q | q
      · exact absurd q (Nat.succ_ne_self _)
      · rw [← q] at hal; exact absurd hal (Nat.not_lt.mpr (Nat.le_succ _))
    · have e' : c = s1.heap.objs.size ∨ c = a := by simpa using hm
      show c < h'.objs.size
      rw [hsz]
      rcases e' with q | q <;> rw [q]
      · exact Nat.lt_add_of_pos_right (by decide)
      · exact Nat.lt_of_lt_of_le hal (Nat.le_add_right _ _)
    · have e' : c = s1.heap.objs.size + 1 ∨ c = s1.heap.objs.size := by simpa using hm
      have hle : s1.heap.objs.size ≤ c := by
        rcases e' with q | q <;> rw [q]
        · exact Nat.le_succ _
        · exact Nat.le_refl _
      exact I1.fpOk hle (I1.hok.fresh hle)
  rcases hq with hq | hq
  · obtain ⟨its, rv, p, hz2⟩ := I1.list hq
    have hal : a < s1.heap.objs.size := by obtain ⟨_, q, _⟩ := p.isList; exact Heap.lt_size q
    refine fin _ _ (fun it i h => h.IsListIter it a i ∧ h.IsList a its.toArray) its (begins_list a its.toArray) p.isList rv hal (fun it h' e k => ⟨⟨_, e, rfl, rfl⟩, p.isList.at fun o q => k _ _ q⟩) fun it hne => ?_
    have := Draws.list (prog := X.prog) (w := X.w) (A := X.A.in1.in1.in1) hh it a hne its.toArray
    simpa using this
  · obtain ⟨its, rv, p, hz2⟩ := I1.tuple hq
    have p' : s1.heap.IsTuple a its.toArray := p
    have hal : a < s1.heap.objs.size := by obtain ⟨_, q, _⟩ := p'; exact Heap.lt_size q
    refine fin _ _ (fun it i h => h.IsTupleIter it a i ∧ h.IsTuple a its.toArray) its (begins_tuple a its.toArray) p' rv hal (fun it h' e k => ⟨⟨_, e, rfl, rfl⟩, p'.at fun o q => k _ _ q⟩) fun it hne => ?_
    have := Draws.tuple (prog := X.prog) (w := X.w) (A := X.A.in1.in1.in1) hh it a hne its.toArray
    simpa using this

/-! ### at D -/
/-- the world grows -/
theorem RelM.grow {ι : Nat → Addr} {m : Mem} {H H' : Hp} {n n' : Nat} {ι' : Nat → Addr} {o : MO} {p : Addr} (M : RelM K w ι m H) (k : ∀ b u, H b = some u → H' b = some u) (hp : H p = none) (ob : ObjR K w (more ι m.length p) (m.length + 1) H' p o) :
    Step ι m.length H (more ι m.length p) (m ++ [o]).length H' ∧ RelM K w (more ι m.length p) (m ++ [o]) H' := by
  have hl : (m ++ [o]).length = m.length + 1 := by simp
  have S : Step ι m.length H (more ι m.length p) (m.length + 1) H' := ⟨Nat.le_succ _, fun l h => more_old h, fun a vs h => k _ _ h, fun a vs h => k _ _ h⟩
  have old : ∀ l x, (m ++ [o])[l]? = some x → (l < m.length ∧ m[l]? = some x) ∨ (l = m.length ∧ x = o) := fun l x e => by
    have h := lt_of_get e
    rw [hl] at h
    by_cases h2 : l < m.length
    · rw [List.getElem?_append_left h2] at e
      exact .inl ⟨h2, e⟩
    · have h3 : l = m.length := by omega
      subst h3
      rw [List.getElem?_append_right (Nat.le_refl _)] at e
      simp at e
      exact .inr ⟨rfl, e.symm⟩
  refine ⟨by rw [hl]; exact S, fun l x e => ?_, fun l l' x x' e e' hm hm' he => ?_⟩
  · rw [hl]
    rcases old l x e with ⟨h1, h2⟩ | ⟨rfl, rfl⟩
    · rw [more_old h1]
      exact (M.obj l x h2).step S fun h1 h2 => k _ _ h2
    · rw [more_new]; exact ob
  · rcases old l x e with ⟨h1, h2⟩ | ⟨rfl, rfl⟩
    · rcases old l' x' e' with ⟨h1', h2'⟩ | ⟨rfl, rfl⟩
      · rw [more_old h1, more_old h1'] at he
        exact M.sep l l' x x' h2 h2' hm hm' he
      · rw [more_old h1, more_new] at he
        obtain ⟨ho, h3, _⟩ := (M.obj l x h2).there hm
        rw [he, hp] at h3
        cases h3
    · rcases old l' x' e' with ⟨h1', h2'⟩ | ⟨rfl, rfl⟩
      · rw [more_old h1', more_new] at he
        obtain ⟨ho, h3, _⟩ := (M.obj l' x' h2').there hm'
        rw [← he, hp] at h3
        cases h3
      · rfl
/-- what is walked: the items of a list or tuple -/
def itemsOf (m : Mem) (d : D) : Option (List D) := match d with
  | .tup xs => some xs
  | .ref l => seqOf m (.ref l)
  | _ => none
theorem itemsOf_sq {ι : Nat → Addr} {m : Mem} {H : Hp} (M : RelM K w ι m H) {d : D} {xs : List D} {v : V} (h : itemsOf m d = some xs) (r : Rep K ι m.length H d v) : ∃ a vs, v = .ref a ∧ (SqL K H a vs ∨ SqT K H a vs) ∧ Reps K ι m.length H xs vs := by
  cases d with
  | tup ys =>
    cases h
    obtain ⟨a, vs, rfl, h1, h2⟩ := r
    exact ⟨a, vs, rfl, .inr h1.sq, h2⟩
  | ref l =>
    obtain ⟨a, vs, rfl, h1, h2⟩ := seqOf_sq M (show seqOf m (.ref l) = some xs from h) r
    exact ⟨a, vs, rfl, .inl h1, h2⟩
  | _ => cases h
def opListEnum : O1 := fun d m => match itemsOf m d with
  | some xs => if xs.length ≤ sizeLine then .ok (.ref m.length) (m ++ [.lst (enumD xs)]) else .stk
  | none => .stk
theorem enumD_snoc (xs : List D) (x : D) : enumD (xs ++ [x]) = enumD xs ++ [.tup [.int (xs.length : Nat), x]] := by
  unfold enumD
  rw [List.length_append, List.length_singleton, List.range_succ, List.map_append]
  congr 1
  · apply List.map_congr_left
    intro i hi
    have hi' := List.mem_range.mp hi
    rw [List.getD_eq_getElem?_getD, List.getD_eq_getElem?_getD, List.getElem?_append_left hi']
  · simp [List.getD_eq_getElem?_getD]
theorem pairs_reps {ι : Nat → Addr} {n : Nat} {H : Hp} {xs ps : List V} (h : Pairs H 0 xs ps) : ∀ {ds : List D}, Reps K ι n H ds xs → Reps K ι n H (enumD ds) ps := by
  induction h with
  | nil =>
    intro ds r
    have : ds = [] := by
      have := r.length
      cases ds with
      | nil => rfl
      | cons => simp at this
    subst this
    exact rfl
  | @snoc xs ps x T h e ih =>
    intro ds r
    have hl := r.length
    rw [List.length_append, List.length_singleton] at hl
    obtain ⟨ds', d, rfl⟩ : ∃ ds' d, ds = ds' ++ [d] := by
      refine ⟨ds.dropLast, ds.getLast (fun z => by rw [z] at hl; simp at hl), ?_⟩
      exact (List.dropLast_concat_getLast _).symm
    have hl2 : ds'.length = xs.length := by simpa using hl.symm
    have ra := r.take (xs.length)
    rw [List.take_left, ← hl2, List.take_left] at ra
    have rb := r.get (i := ds'.length) (d := d) (by simp)
    obtain ⟨v, e1, e2⟩ := rb
    rw [hl2] at e1
    simp at e1
    subst e1
    rw [enumD_snoc]
    refine (ih ra).append (Reps.cons ⟨T, _, rfl, .inl e, Reps.cons ?_ (Reps.cons e2 Reps.nil)⟩ Reps.nil)
    rw [hl2, Nat.zero_add]
    exact rfl
theorem de_listEnum {e : Expr} {f : DF} {p1 p2 pos pos2 : Pos} (hc : X.calm = true) (hg : Gl X "enumerate") (hm : X.mg "enumerate" = none) (hg2 : Gl X "list") (hm2 : X.mg "list" = none) (he : DE X W e f) (hs : starEach [e] X.env = [(false, eval e X.env)] := by rfl)
    (hs2 : starEach [.Call (.Name "enumerate" p1) [e] [] pos2] X.env = [(false, eval (.Call (.Name "enumerate" p1) [e] [] pos2) X.env)] := by rfl) :
    DE X W (.Call (.Name "list" p2) [.Call (.Name "enumerate" p1) [e] [] pos2] [] pos) (dUn opListEnum f) := pe_imp (pe_listEnum hc hg hm hg2 hm2 he hs hs2) fun σ H Q h => by
  obtain ⟨ι, ρ, m, e, M, q⟩ := h
  refine ⟨ι, ρ, m, e, M, fin_then q fun ι1 m1 H1 d S1 M1 q1 v rv => ?_⟩
  unfold opListEnum at q1
  cases e1 : itemsOf m1 d with
  | none => rw [e1] at q1; exact q1.elim
  | some xs =>
    rw [e1] at q1
    dsimp only at q1
    by_cases hz : xs.length ≤ sizeLine
    · rw [if_pos hz] at q1
      obtain ⟨a, vs, rfl, h1, h2⟩ := itemsOf_sq M1 e1 rv
      refine ⟨a, vs, rfl, by rw [h2.length]; exact hz, h1, fun p H2 ps hp k hps hpp => ?_⟩
      have hl : (m1 ++ [MO.lst (enumD xs)]).length = m1.length + 1 := by simp
      have S0 : Step ι1 m1.length H1 (more ι1 m1.length p) (m1.length + 1) H2 := ⟨Nat.le_succ _, fun l h => more_old h, fun a vs h => k _ _ h, fun a vs h => k _ _ h⟩
      obtain ⟨S2, M2⟩ := RelM.grow (n := 0) (n' := 0) (ι' := ι1) M1 k hp (o := .lst (enumD xs)) ⟨ps, hps, pairs_reps hpp (Reps.step S0 _ _ h2)⟩
      exact q1 _ H2 S2 M2 _ ⟨by rw [hl]; exact Nat.lt_succ_self _, by rw [more_new]⟩
    · rw [if_neg hz] at q1
      exact q1.elim
end
end DL
/-! The D layer: own exceptions with fields: __init__, raise, try .. except .. as .. -/
namespace DL
open PySem PySem.Spec L2 PyProof.Rows

/-- what stands behind __init__ -/
def initH (H : Hp) (a dx C : Addr) (fs : List (Str × V)) : Hp := upd (upd H dx (exd dx fs)) a (exo a C (some dx))
theorem initH_a {H : Hp} {a dx C : Addr} {fs : List (Str × V)} : initH H a dx C fs a = some (exo a C (some dx)) := upd_same
theorem initH_d {H : Hp} {a dx C : Addr} {fs : List (Str × V)} (h : dx ≠ a) : initH H a dx C fs dx = some (exd dx fs) := by unfold initH; rw [upd_ne h, upd_same]
theorem initH_put {H : Hp} {a dx C : Addr} {fs gs : List (Str × V)} (h : dx ≠ a) : upd (initH H a dx C fs) dx (exd dx gs) = initH H a dx C gs := by
  funext b
  unfold initH upd
  by_cases h1 : b = dx
  · subst h1; simp [h]
  · by_cases h2 : b = a
    · subst h2; simp [Ne.symm h]
    · simp [h1, h2]
/-- self.f = f, one behind another -/
def gIn (K : PySem.W.Frag) : List (Str × Nat) → TS
  | [] => tNext
  | (f, i) :: r => tSeq (tOst K f (tVar 0) (tVar i)) (gIn K r)
section
variable {K : PySem.W.Frag} {C : Addr}
theorem gIn_more (T : OexC K C) {H : Hp} {a dx : Addr} (hne : dx ≠ a) {D : Ends} {σ : L2.St} (h0 : σ[0]? = some (some (.ref a))) : ∀ (fs : List (Str × Nat)) (ys : List V) (acc : List (Str × V)), fs.length = ys.length → (∀ (j : Nat) (f : Str) (i : Nat) (y : V), fs[j]? = some (f, i) → ys[j]? = some y → σ[i]? = some (some y)) →
    (∀ p ∈ fs, PySem.W.findIn K (.ref C) p.1 = some none) → acc.length + fs.length ≤ 900 → D.nx σ (initH H a dx C (((fs.map (·.1)).zip ys).reverse ++ acc)) → gIn K fs D σ (initH H a dx C acc)
  | [], [], acc, _, _, _, _, h => h
  | (f, i) :: fs, y :: ys, acc, hl, hv, hf, hz, h => by
    have hz' : acc.length + (fs.length + 1) ≤ 900 := by simpa using hz
    refine ⟨y, hv 0 f i y rfl rfl, .ref a, h0, a, C, rfl, T, hf _ List.mem_cons_self, .inr ⟨dx, acc, initH_a, initH_d hne, by omega, ?_⟩⟩
    rw [initH_put hne]
    refine gIn_more T hne h0 fs ys ((f, y) :: acc) (by simpa using hl) (fun j g k z e e2 => hv (j + 1) g k z (by simpa using e) (by simpa using e2)) (fun p hp => hf p (List.mem_cons_of_mem _ hp)) (by simp; omega) ?_
    have : ((fs.map (·.1)).zip ys).reverse ++ (f, y) :: acc = ((((f, i) :: fs).map (·.1)).zip (y :: ys)).reverse ++ acc := by simp
    rw [this]; exact h
  | [], _ :: _, _, hl, _, _, _, _ => by simp at hl
  | _ :: _, [], _, hl, _, _, _, _ => by simp at hl
/-- what an __init__ that stores its parameters keeps -/
def spIn (K : PySem.W.Frag) (C : Addr) (fns : List Str) : Sp := fun vs H Q E => ∃ a ws, vs = .ref a :: ws ∧ ws.length = fns.length ∧ H a = some (exo a C none) ∧ ∀ dx, H dx = none → dx ≠ a → Q .non (initH H a dx C (fns.zip ws).reverse)
def slotsIn (fns : List Str) : List (Str × Nat) := fns.zip ((List.range fns.length).map (· + 1))
theorem slotsIn_len (fns : List Str) : (slotsIn fns).length = fns.length := by simp [slotsIn]
theorem slotsIn_map (fns : List Str) : (slotsIn fns).map (·.1) = fns := by
  unfold slotsIn
  rw [List.map_fst_zip]
  simp
theorem gIn_ok (T : OexC K C) {H : Hp} {a : Addr} {D : Ends} {N : List Str} {fns : List Str} {ws : List V} (hn : fns ≠ []) (hl : ws.length = fns.length) (hf : ∀ f ∈ fns, PySem.W.findIn K (.ref C) f = some none) (hz : fns.length ≤ 900) (ha : H a = some (exo a C none))
    (h : ∀ dx, H dx = none → dx ≠ a → D.nx (L2.start N (.ref a :: ws)) (initH H a dx C (fns.zip ws).reverse)) : gIn K (slotsIn fns) D (L2.start N (.ref a :: ws)) H := by
  have h0 : (L2.start N (.ref a :: ws))[0]? = some (some (.ref a)) := by simp [L2.start]
  have hv : ∀ (j : Nat) (f : Str) (i : Nat) (y : V), (slotsIn fns)[j]? = some (f, i) → ws[j]? = some y → (L2.start N (.ref a :: ws))[i]? = some (some y) := fun j f i y e e2 => by
    unfold slotsIn at e
    rw [List.getElem?_zip_eq_some] at e
    obtain ⟨e1, e3⟩ := e
    rw [List.getElem?_map] at e3
    have hj := lt_of_get e1
    rw [List.getElem?_range hj] at e3
    cases e3
    simp only [L2.start, List.map_cons, List.cons_append, List.getElem?_cons_succ]
    rw [List.getElem?_append_left (by rw [List.length_map]; exact lt_of_get e2), List.getElem?_map, e2]
    rfl
  cases fns with
  | nil => exact absurd rfl hn
  | cons f fns =>
    cases ws with
    | nil => simp at hl
    | cons y ws =>
      have es : slotsIn (f :: fns) = (f, 1) :: ((fns.zip ((List.range fns.length).map (· + 2)))) := by
        unfold slotsIn
        rw [List.length_cons, List.range_succ_eq_map, List.map_cons, List.zip_cons_cons, List.map_map]
        rfl
      rw [es]
      have hv0 := hv 0 f 1 y (by rw [es]; rfl) rfl
      refine ⟨y, hv0, .ref a, h0, a, C, rfl, T, hf f List.mem_cons_self, .inl ⟨ha, fun dx hd hne => ?_⟩⟩
      show gIn K _ D _ (initH H a dx C [(f, y)])
      refine gIn_more T hne h0 _ ws [(f, y)] (by simp at hl ⊢; omega) (fun j g k z e e2 => hv (j + 1) g k z (by rw [es]; simpa using e) (by simpa using e2)) (fun p hp => hf p.1 (List.mem_cons_of_mem _ (List.of_mem_zip hp).1)) (by simp at hz ⊢; omega) ?_
      have := h dx hd hne
      have e3 : ((f :: fns).zip (y :: ws)).reverse = (((fns.zip ((List.range fns.length).map (· + 2))).map (·.1)).zip ws).reverse ++ [(f, y)] := by
        rw [List.map_fst_zip (by simp)]
        simp
      rw [← e3]; exact this
end
/-- an own exception class: its name, its fields by their parameters -/
structure XCls (X : Cx) (k : Nat) (c : Str) (C fI : Addr) (fd : FuncData) (fns : List Str) : Prop where
  oex : OexC X.K C
  ini : PySem.W.findIn X.K (.ref C) "__init__" = some (some (.ref fI))
  tyI : PySem.W.typeIn X.K (.ref fI) = some (.type "function")
  fn : FnOk X.prog X.w X.K X.mg X.base (L2.CX X.prog X.w) k fI fd ("self" :: fns) (spIn X.K C fns)
  mg : X.mg c = some (.ref C)
  few : fns.length ≤ 900
theorem init_fn {P : Program} {w : World} {K : PySem.W.Frag} {mg : Str → Option Value} {base : Heap} {k : Nat} {C f : Addr} {fd : FuncData} {x qual : Str} {st : Stmt} {N : List Str} {fns : List Str} (Fu : Fun K x qual st f fd) (S : FnScope N ("self" :: fns) (defScope st)) (T : OexC K C)
    (hn : fns ≠ []) (hf : ∀ f ∈ fns, PySem.W.findIn K (.ref C) f = some none) (hz : fns.length ≤ 900)
    (hb : ∀ (cdv : Value) (A : Around) (outer : List Env) (s : Shared) (H : Hp) (E : XK), PSs (cxOf (L2.CX P w) P w K mg base N qual (defScope st) f cdv A outer s H E) (defBody st) (gIn K (slotsIn fns))) :
    FnOk P w K mg base (L2.CX P w) (k + 1) f fd ("self" :: fns) (spIn K C fns) := by
  refine Fu.okX S (fun vs H Q E h => ?_) fun cdv A outer s H vs Q E hr h => ⟨_, hb cdv A outer s H E, ?_⟩
  · obtain ⟨a, ws, rfl, hl, _⟩ := h
    simp [hl]
  · obtain ⟨a, ws, rfl, hl, ha, h⟩ := h
    exact gIn_ok T hn hl hf hz ha h
section
variable {X : Cx} {W : WX} {k : Nat} {c : Str} {C fI : Addr} {fd : FuncData} {fns : List Str} {e : Expr} {es : List Expr} {fs : DFs} {p pos pos2 : Pos}
/-- raise c(e, ..) -/
def dRaise (c : Str) (fns : List Str) (fs : DFs) : DSt := fun ρ m => (fs ρ m).goes ρ fun ds m1 => if ds.length = fns.length then .exn c (fns.zip ds).reverse ρ m1 else .stk
theorem fld_zip {K : PySem.W.Frag} {ι : Nat → Addr} {n : Nat} {H : Hp} : ∀ {fns : List Str} {ds : List D} {vs : List V}, Reps K ι n H ds vs → FldR K ι n H (fns.zip ds) (fns.zip vs)
  | [], _, _, _ => .nil
  | _ :: _, [], vs, r => by rw [show vs = [] from r]; exact .nil
  | f :: fns, d :: ds, _, r => by
    obtain ⟨v, u, rfl, r1, r2⟩ := r
    exact .cons ⟨rfl, r1⟩ (fld_zip r2)
theorem paired_snoc {α β : Type} {F : α → β → Prop} {a : α} {b : β} (h : F a b) : ∀ {xs : List α} {ys : List β}, Paired F xs ys → Paired F (xs ++ [a]) (ys ++ [b])
  | _, _, .nil => .cons h .nil
  | _, _, .cons r t => .cons r (paired_snoc h t)
theorem paired_rev {α β : Type} {F : α → β → Prop} : ∀ {xs : List α} {ys : List β}, Paired F xs ys → Paired F xs.reverse ys.reverse
  | _, _, .nil => .nil
  | _, _, .cons r t => by rw [List.reverse_cons, List.reverse_cons]; exact paired_snoc r (paired_rev t)
theorem ds_raise (G : XCls X k c C fI fd fns) (hc : X.calm = true) (tk : Takes X W) (hr : Room (k + 1) X.A) (hg : Gl X c) (hb : Binds X.K fd ("self" :: fns) []) (hx : Passes (L2.CX X.prog X.w) X (fun _ _ _ => False)) (ha : DA X W (e :: es) fs)
    (hdb : (c == ("__debug__" : Str)) = false := by decide) (he : starEach (e :: es) X.env = (false, eval e X.env) :: starEach es X.env := by rfl) (hpl : (backTo pos (starEach es X.env)).any (·.1) = false := by rfl) :
    DS X W (.Raise (some (.Call (.Name c p) (e :: es) [] pos)) none pos2) (dRaise c fns fs) :=
  ps_imp (ps_raise hc tk (pmk_oex (p := p) (pos := pos) (dvs := []) (ds := []) G.oex G.ini G.tyI G.fn hr hb .nil hx hg G.mg ha hdb he hpl)) fun D σ H h => by
    obtain ⟨ι, ρ, m, e, M, q⟩ := h
    refine ⟨ι, ρ, m, e, M, fin_goes' e q fun ι1 m1 H1 ds S1 M1 e1 q1 vs rv => ?_⟩
    by_cases hl : ds.length = fns.length
    · rw [if_pos hl] at q1
      have hlv : vs.length = fns.length := rv.length.trans hl
      refine ⟨by rw [hlv]; exact Nat.le_trans G.few (by decide), fun a hna => ?_⟩
      refine ⟨a, vs, by rw [List.append_nil], hlv, upd_same, fun dx hdx hne => ?_⟩
      have hd1 : H1 dx = none := by rw [upd_ne hne] at hdx; exact hdx
      refine ⟨rfl, dx, (fns.zip vs).reverse, initH_a, initH_d hne, hd1, ?_⟩
      have eH : upd (del (initH (upd H1 a (exo a C none)) a dx C (fns.zip vs).reverse) a) dx (.xd (fns.zip vs).reverse) = upd H1 dx (.xd (fns.zip vs).reverse) := by
        funext b
        unfold initH upd del
        by_cases h1 : b = dx
        · simp [h1]
        · by_cases h2 : b = a
          · subst h2; simp [h1, hna]
          · simp [h1, h2]
      rw [eH]
      have S2 := Step.tup (ι := ι1) (n := m1.length) (ho := .xd (fns.zip vs).reverse) hd1
      exact q1 ι1 _ σ C dx _ S2 (M1.fresh hd1) (e1.step S2) G.mg upd_same (paired_rev (fld_zip (Reps.step S2 _ _ rv)))
    · rw [if_neg hl] at q1
      exact q1.elim
end

/-! ### try .. except c as n: suite -/
/-- a suite's expression: what it gives by the fields, nothing changes but by what is made new -/
def unset (i : Nat) (o : O) : O := match o with
  | .nx ρ m => .nx (ρ.set i none) m
  | .bk ρ m => .bk (ρ.set i none) m
  | .ct ρ m => .ct (ρ.set i none) m
  | .rt d m => .rt d m
  | _ => .stk
def dTry (g : DSt) (xm : Str → Option Bool) (i : Nat) (h : List (Str × D) → DSt) : DSt := fun ρ m => match g ρ m with
  | .exn c fs ρ1 m1 => match xm c with
    | some true => if i < ρ1.length then unset i (h fs (ρ1.set i none) m1) else .stk
    | some false => .exn c fs ρ1 m1
    | none => .stk
  | o => o
/-- the suite's reading: a the exception, cls its class, d its dict -/
def tSuite (K : PySem.W.Frag) (w : World) (mg : Str → Option Value) (xm : Str → Option Bool) (i : Nat) (h : List (Str × D) → DSt) (a : Addr) (cls : Value) (d : Option Addr) : TS := fun E σ H =>
  ∃ ι ρ m fs gs dx c C, d = some dx ∧ H dx = some (.xd gs) ∧ FldR K ι m.length H fs gs ∧ mg c = some (.ref C) ∧ cls = .ref C ∧ xm c = some true ∧ σ[i]? = some (some (.ref a)) ∧ RelE K ι m.length H ρ σ ∧ RelM K w ι m H ∧ finS K w mg W0 ι m.length H E (h fs ρ m)
theorem RelE.unset {K : PySem.W.Frag} {ι : Nat → Addr} {n : Nat} {H : Hp} {ρ : En} {σ : L2.St} (h : RelE K ι n H ρ σ) (i : Nat) (o : Option V) : RelE K ι n H (ρ.set i none) (σ.set i o) := by
  refine ⟨by rw [List.length_set, List.length_set]; exact h.1, fun j d e => ?_⟩
  by_cases hij : i = j
  · subst hij
    by_cases hl : i < ρ.length
    · rw [List.getElem?_set_self hl] at e; cases e
    · rw [List.getElem?_eq_none (by rw [List.length_set]; omega)] at e; cases e
  · rw [List.getElem?_set_ne hij] at e ⊢
    exact h.2 j d e
section
variable {X : Cx} {W : WX} {x n : Str} {c : Value} {i : Nat} {body suite : List Stmt} {b₀ : Stmt} {np pos pos' : Pos} {g : DSt} {xm : Str → Option Bool} {h : List (Str × D) → DSt}
theorem ds_try (hs : X.stack = X.env :: X.outer) (hf : X.env.frame = some X.env.locals) (hN : X.N.Nodup) (hi : X.N[i]? = some n) (hln : X.env.kindOf n = some .local) (hc : Names X x c) (tk : Takes X W)
    (hxm : ∀ c' b C', xm c' = some b → X.mg c' = some (.ref C') → PySem.W.exmOne X.K (.ref C') c = some b)
    (hb : ∀ (W' : WX) (pn : List (Addr × Obj)) (xe : Value → Shared → Prop), Takes (X.tr pn xe) W' → PassesOwn (model X.prog X.w) X.A X.env xe → DSs (X.tr pn xe) W' body g)
    (hsu : ∀ (a : Addr) (oe : Obj) (cls : Value) (d : Option Addr) (pn : List (Addr × Obj)), (∃ c' C', xm c' = some true ∧ X.mg c' = some (.ref C') ∧ cls = .ref C') → Zc cls d oe → (∃ vs, oe.data = .fields vs) → PSs (X.suite a ((a, oe) :: pn)) (b₀ :: suite) (tSuite X.K X.w X.mg xm i h a cls d)) :
    DS X W (.Try body [.ExceptHandler (some (.Name x np)) (some n) (b₀ :: suite) pos'] [] [] pos) (dTry g xm i h) :=
  ps_imp (ps_try_as (i := i) (ts := tSuite X.K X.w X.mg xm i h) (tb := fun W' => rdS X.K X.w X.mg W' g) hs hf hN hi hln hc tk hb fun a oe cls d pn hz hf => (Classical.em (∃ c' C', xm c' = some true ∧ X.mg c' = some (.ref C') ∧ cls = .ref C')).elim (fun h => hsu a oe cls d pn h hz hf) fun h => ⟨fun pins s σ H D I q => absurd (let ⟨_, _, _, _, _, _, c', C', _, _, _, hm, ec, hxc, _⟩ := q; ⟨c', C', hxc, hm, ec⟩) h⟩) fun E σ H q => by
    obtain ⟨ι, ρ, m, e, M, q⟩ := q
    refine ⟨ι, ρ, m, e, M, ?_⟩
    unfold dTry at q
    cases hg : g ρ m with
    | exn c' fs ρ1 m1 =>
      rw [hg] at q
      dsimp only at q
      intro ι1 H1 σ1 C dx gs S1 M1 e1 hm hx hF
      cases hxc : xm c' with
      | none => rw [hxc] at q; exact q.elim
      | some b =>
        rw [hxc] at q
        refine ⟨b, hxm c' b C hxc hm, fun hbt a ha => ?_, fun hbf => ?_⟩
        · subst hbt
          dsimp only at q
          by_cases hl : i < ρ1.length
          · rw [if_pos hl] at q
            have q2 := finS_step q S1
            refine ⟨ι1, ρ1.set i none, m1, fs, gs, dx, c', C, rfl, hx, hF, hm, rfl, hxc, List.getElem?_set_self (by rw [← e1.1]; exact hl), e1.unset i _, M1, ?_⟩
            cases hh : h fs (ρ1.set i none) m1 with
            | nx ρ2 m2 => rw [hh] at q2; exact fun ι2 H2 σ2 S2 M2 e2 => q2 ι2 H2 _ S2 M2 (e2.unset i none)
            | bk ρ2 m2 => rw [hh] at q2; exact fun ι2 H2 σ2 S2 M2 e2 => q2 ι2 H2 _ S2 M2 (e2.unset i none)
            | ct ρ2 m2 => rw [hh] at q2; exact fun ι2 H2 σ2 S2 M2 e2 => q2 ι2 H2 _ S2 M2 (e2.unset i none)
            | rt d m2 => rw [hh] at q2; exact q2
            | exn c2 fs2 ρ2 m2 => rw [hh] at q2; exact q2.elim
            | stk => rw [hh] at q2; exact q2.elim
          · rw [if_neg hl] at q
            exact q.elim
        · subst hbf
          exact q ι1 H1 σ1 C dx gs S1 M1 e1 hm hx hF
    | nx ρ1 m1 => rw [hg] at q; exact q
    | bk ρ1 m1 => rw [hg] at q; exact q
    | ct ρ1 m1 => rw [hg] at q; exact q
    | rt d m1 => rw [hg] at q; exact q
    | stk => rw [hg] at q; exact q

/-! ### what a suite says of the exception -/
def rdX (K : PySem.W.Frag) (w : World) (mg : Str → Option Value) (i : Nat) (a : Addr) (cls : Value) (d : Option Addr) (fe : List (Str × D) → DF) : TE := fun σ H Q =>
  ∃ ι ρ m fs gs dx, d = some dx ∧ H dx = some (.xd gs) ∧ FldR K ι m.length H fs gs ∧ σ[i]? = some (some (.ref a)) ∧ RelE K ι m.length H ρ σ ∧ RelM K w ι m H ∧ fin K w mg W0 σ ι m.length H (pV K Q) (fe fs ρ m)
def rdXA (K : PySem.W.Frag) (w : World) (mg : Str → Option Value) (i : Nat) (a : Addr) (cls : Value) (d : Option Addr) (fe : List (Str × D) → DFs) : TA := fun σ H Q =>
  ∃ ι ρ m fs gs dx, d = some dx ∧ H dx = some (.xd gs) ∧ FldR K ι m.length H fs gs ∧ σ[i]? = some (some (.ref a)) ∧ RelE K ι m.length H ρ σ ∧ RelM K w ι m H ∧ fin K w mg W0 σ ι m.length H (pVs K Q) (fe fs ρ m)
theorem fld_step {K : PySem.W.Frag} {ι ι' : Nat → Addr} {n n' : Nat} {H H' : Hp} {fs : List (Str × D)} {gs : List (Str × V)} (h : FldR K ι n H fs gs) (S : Step ι n H ι' n' H') : FldR K ι' n' H' fs gs := Paired.mp (fun p q z => ⟨z.1, z.2.step S⟩) h
theorem fld_look {K : PySem.W.Frag} {ι : Nat → Addr} {n : Nat} {H : Hp} {f : Str} {d : D} : ∀ {fs : List (Str × D)} {gs : List (Str × V)}, FldR K ι n H fs gs → fs.lookup f = some d → ∃ v, gs.lookup f = some v ∧ Rep K ι n H d v
  | _, _, .nil, e => by cases e
  | (g, x) :: fs, (g', y) :: gs, .cons r t, e => by
    obtain ⟨rfl, r2⟩ := r
    by_cases h : (f == g) = true
    · simp only [List.lookup, h] at e ⊢
      cases e
      exact ⟨y, rfl, r2⟩
    · have h' : (f == g) = false := by simpa using h
      simp only [List.lookup, h'] at e ⊢
      exact fld_look t e
variable {a : Addr} {oe : Obj} {cls : Value} {d : Option Addr} {pn : List (Addr × Obj)} {e : Expr} {es : List Expr}
/-- what does not look at the exception -/
theorem sx_de {f : DF} {Y : Cx} (he : DE Y W0 e f) : PE Y e (rdX Y.K Y.w Y.mg i a cls d fun _ => f) := pe_imp he fun σ H Q q => by
  obtain ⟨ι, ρ, m, fs, gs, dx, ed, hx, hF, hi, E, M, q⟩ := q
  exact ⟨ι, ρ, m, E, M, q⟩
def dFld (f : Str) (fs : List (Str × D)) : DF := fun _ m => match fs.lookup f with
  | some v => .ok v m
  | none => .stk
theorem sx_fld {C : Addr} {f : Str} {p pos : Pos} {nm : Str} (T : XfC X.K C) (hno : PySem.W.findIn X.K (.ref C) f = some none) (hz : Zc cls d oe) (hf : ∃ vs, oe.data = .fields vs) (ec : cls = .ref C)
    (he : PE (X.suite a ((a, oe) :: pn)) (.Name nm p) (tVar i)) (hb : attributeBase (.Name nm p) f X.env (eval (.Name nm p) X.env) = eval (.Name nm p) X.env := by rfl) :
    PE (X.suite a ((a, oe) :: pn)) (.Attribute (.Name nm p) f pos) (rdX X.K X.w X.mg i a cls d (dFld f)) := pe_imp (pe_xf T hno hz hf he hb) fun σ H Q q => by
  obtain ⟨ι, ρ, m, fs, gs, dx, ed, hx, hF, hi, E, M, q⟩ := q
  refine ⟨.ref a, hi, rfl, ec, dx, gs, ?_⟩
  unfold dFld at q
  cases h1 : fs.lookup f with
  | none => rw [h1] at q; exact q.elim
  | some v =>
    rw [h1] at q
    obtain ⟨u, h2, h3⟩ := fld_look hF h1
    exact ⟨u, ed, hx, h2, fin_now (α := D) q M u h3⟩
def xNil : List (Str × D) → DFs := fun _ => dNil
def xCons (f : List (Str × D) → DF) (g : List (Str × D) → DFs) : List (Str × D) → DFs := fun fs => dCons (f fs) (g fs)
theorem sxa_nil {Y : Cx} : PA Y [] (rdXA Y.K Y.w Y.mg i a cls d xNil) := pa_imp pa_nil fun σ H Q q => by
  obtain ⟨ι, ρ, m, fs, gs, dx, ed, hx, hF, hi, E, M, q⟩ := q
  exact fin_now q M [] Reps.nil
theorem sxa_cons {Y : Cx} {f : List (Str × D) → DF} {g : List (Str × D) → DFs} (ha : PE Y e (rdX Y.K Y.w Y.mg i a cls d f)) (hr : PA Y es (rdXA Y.K Y.w Y.mg i a cls d g)) (hs : starEach (e :: es) Y.env = (false, eval e Y.env) :: starEach es Y.env := by rfl) : PA Y (e :: es) (rdXA Y.K Y.w Y.mg i a cls d (xCons f g)) :=
  pa_imp (pa_cons ha hr hs) fun σ H Q q => by
  obtain ⟨ι, ρ, m, fs, gs, dx, ed, hx, hF, hi, E, M, q⟩ := q
  refine ⟨ι, ρ, m, fs, gs, dx, ed, hx, hF, hi, E, M, fin_then q fun ι1 m1 H1 d S1 M1 q1 v rv => ?_⟩
  refine ⟨ι1, ρ, m1, fs, gs, dx, ed, S1.xk _ _ hx, fld_step hF S1, hi, E.step S1, M1, fin_then q1 fun ι2 m2 H2 ds S2 M2 q2 vs rvs => ?_⟩
  exact fin_now q2 M2 (v :: vs) (Reps.cons (rv.step S2) rvs)
def xLst (g : List (Str × D) → DFs) : List (Str × D) → DF := fun fs => dLst (g fs)
def xTup (g : List (Str × D) → DFs) : List (Str × D) → DF := fun fs => dTup (g fs)
theorem sx_lst {Y : Cx} {pos : Pos} {g : List (Str × D) → DFs} (h : PA Y es (rdXA Y.K Y.w Y.mg i a cls d g)) : PE Y (.List es pos) (rdX Y.K Y.w Y.mg i a cls d (xLst g)) := pe_imp (pe_lst h) fun σ H Q q => by
  obtain ⟨ι, ρ, m, fs, gs, dx, ed, hx, hF, hi, E, M, q⟩ := q
  refine ⟨ι, ρ, m, fs, gs, dx, ed, hx, hF, hi, E, M, fin_then q fun ι1 m1 H1 ds S1 M1 q1 vs rv => ?_⟩
  by_cases hz : ds.length ≤ sizeLine
  · rw [if_pos hz] at q1
    exact ⟨by rw [rv.length]; exact hz, fin_lst M1 rv q1⟩
  · rw [if_neg hz] at q1
    exact q1.elim
theorem sx_tup {Y : Cx} {pos : Pos} {x1} {g : List (Str × D) → DFs} (h : PA Y es (rdXA Y.K Y.w Y.mg i a cls d g)) : PE Y (.Tuple es x1 pos) (rdX Y.K Y.w Y.mg i a cls d (xTup g)) := pe_imp (pe_tup h) fun σ H Q q => by
  obtain ⟨ι, ρ, m, fs, gs, dx, ed, hx, hF, hi, E, M, q⟩ := q
  refine ⟨ι, ρ, m, fs, gs, dx, ed, hx, hF, hi, E, M, fin_then q fun ι1 m1 H1 ds S1 M1 q1 vs rv => ?_⟩
  by_cases hz : ds.length ≤ sizeLine
  · rw [if_pos hz] at q1
    exact ⟨by rw [rv.length]; exact hz, fin_tup M1 rv q1⟩
  · rw [if_neg hz] at q1
    exact q1.elim
/-- return e -/
theorem ss_ret {Y : Cx} {pos : Pos} {f : List (Str × D) → DF} (he : PE Y e (rdX Y.K Y.w Y.mg i a cls d f)) : PSs Y [.Return (some e) pos] (tSuite Y.K Y.w Y.mg xm i (fun fs => dRet (f fs)) a cls d) := pss_imp (pss_one (ps_ret he)) fun E σ H q => by
  obtain ⟨ι, ρ, m, fs, gs, dx, c, C, ed, hx, hF, hm, ec, hxc, hi, e, M, q⟩ := q
  exact ⟨ι, ρ, m, fs, gs, dx, ed, hx, hF, hi, e, M, fin_goes' e q fun ι1 m1 H1 d S1 M1 e1 q1 v rv => q1 ι1 H1 v (Step.refl _ _ _) M1 rv⟩
/-- a suite that does not look at the exception -/
theorem ss_any {Y : Cx} {sts : List Stmt} {g : DSt} (hg : DSs Y W0 sts g) : PSs Y sts (tSuite Y.K Y.w Y.mg xm i (fun _ => g) a cls d) := pss_imp hg fun E σ H q => by
  obtain ⟨ι, ρ, m, fs, gs, dx, c, C, ed, hx, hF, hm, ec, hxc, hi, e, M, q⟩ := q
  exact ⟨ι, ρ, m, e, M, q⟩
end
end DL
/-! The D layer: the order of data; sorted. -/
namespace DL
open PySem PySem.Spec L2

/-! ### data as words of ints -/
mutual
def D.toks : D → List Int
  | .int i => [0, i]
  | .str x => 1 :: (x.cps.toList.map (fun c : Nat => (c : Int) + 1) ++ [0])
  | .tup xs => 2 :: D.toksAll xs
  | .non => [3]
  | .bl b => [4, if b then 1 else 0]
  | .ref l => [5, l]
def D.toksAll : List D → List Int
  | [] => [0]
  | x :: xs => 1 :: (D.toks x ++ D.toksAll xs)
end
theorem cps_inj {x y : Str} (h : x.cps.toList = y.cps.toList) : x = y := by
  cases x; cases y
  simp at h
  simp [h]
theorem word_inj : ∀ (a b : List Nat) (s t : List Int), a.map (fun c : Nat => (c : Int) + 1) ++ 0 :: s = b.map (fun c : Nat => (c : Int) + 1) ++ 0 :: t → a = b ∧ s = t
  | [], [], _, _, h => ⟨rfl, by simpa using h⟩
  | [], b :: bs, _, _, h => by
    simp at h
    omega
  | a :: as, [], _, _, h => by
    simp at h
    omega
  | a :: as, b :: bs, s, t, h => by
    simp only [List.map_cons, List.cons_append, List.cons.injEq] at h
    obtain ⟨h1, h2⟩ := word_inj as bs s t h.2
    exact ⟨by rw [h1, show a = b by omega], h2⟩
mutual
theorem toks_inj : ∀ (x y : D) (s t : List Int), x.toks ++ s = y.toks ++ t → x = y ∧ s = t
  | .int i, y, s, t, h => by
    cases y <;> simp [D.toks] at h
    exact ⟨by rw [h.1], h.2⟩
  | .str a, y, s, t, h => by
    cases y <;> simp [D.toks] at h
    obtain ⟨h1, h2⟩ := word_inj _ _ s t h
    exact ⟨by rw [cps_inj h1], h2⟩
  | .tup xs, y, s, t, h => by
    cases y with
    | tup ys =>
      simp [D.toks] at h
      obtain ⟨h1, h2⟩ := toksAll_inj xs ys s t h
      exact ⟨by rw [h1], h2⟩
    | _ => simp [D.toks] at h
  | .non, y, s, t, h => by
    cases y <;> simp [D.toks] at h
    exact ⟨rfl, h⟩
  | .bl b, y, s, t, h => by
    cases y with
    | bl c =>
      simp [D.toks] at h
      exact ⟨by cases b <;> cases c <;> simp at h <;> rfl, h.2⟩
    | _ => simp [D.toks] at h
  | .ref l, y, s, t, h => by
    cases y with
    | ref l' =>
      simp [D.toks] at h
      exact ⟨by rw [show l = l' by omega], h.2⟩
    | _ => simp [D.toks] at h
theorem toksAll_inj : ∀ (xs ys : List D) (s t : List Int), D.toksAll xs ++ s = D.toksAll ys ++ t → xs = ys ∧ s = t
  | [], [], s, t, h => ⟨rfl, by simpa [D.toksAll] using h⟩
  | [], y :: ys, s, t, h => by simp [D.toksAll] at h
  | x :: xs, [], s, t, h => by simp [D.toksAll] at h
  | x :: xs, y :: ys, s, t, h => by
    simp only [D.toksAll, List.cons_append, List.cons.injEq, true_and, List.append_assoc] at h
    obtain ⟨h1, h2⟩ := toks_inj x y _ _ h
    obtain ⟨h3, h4⟩ := toksAll_inj xs ys s t h2
    exact ⟨by rw [h1, h3], h4⟩
end
theorem toks_eq {x y : D} (h : x.toks = y.toks) : x = y := (toks_inj x y [] [] (by rw [h])).1
/-- x before y -/
def tlt (x y : D) : Bool := decide (x.toks < y.toks)
theorem tlt_irr (x : D) : tlt x x = false := decide_eq_false (List.lt_irrefl _)
theorem tlt_asym {x y : D} (h : tlt x y = true) : tlt y x = false := decide_eq_false fun g => List.lt_asymm (of_decide_eq_true h) g
theorem tlt_trans {x y z : D} (h : tlt x y = true) (g : tlt y z = true) : tlt x z = true := decide_eq_true (List.lt_trans (of_decide_eq_true h) (of_decide_eq_true g))
theorem tlt_conn {x y : D} (h : tlt x y = false) (g : tlt y x = false) : x = y := toks_eq (List.le_antisymm (List.not_lt.mp (of_decide_eq_false g)) (List.not_lt.mp (of_decide_eq_false h)))
theorem tlt_neg {x y z : D} (h1 : tlt y x = false) (h2 : tlt z y = false) : tlt z x = false := by
  cases h : tlt z x with
  | false => rfl
  | true =>
    cases g : tlt x y with
    | true => rw [tlt_trans h g] at h2; cases h2
    | false =>
      have := tlt_conn g h1
      subst this
      rw [h] at h2
      cases h2
/-! ### as Python compares -/
mutual
def dlt : D → D → Option Bool
  | .int a, .int b => some (decide (a < b))
  | .str a, .str b => some (decide (a.cps.toList < b.cps.toList))
  | .tup xs, .tup ys => dlts xs ys
  | _, _ => none
def dlts : List D → List D → Option Bool
  | [], [] => some false
  | [], _ :: _ => some true
  | _ :: _, [] => some false
  | x :: xs, y :: ys => if x = y then dlts xs ys else dlt x y
end
theorem app_lt (p : List Int) {s t : List Int} : p ++ s < p ++ t ↔ s < t := by
  induction p with
  | nil => exact Iff.rfl
  | cons a p ih => rw [List.cons_append, List.cons_append, List.cons_lt_cons_iff]; simp only [Int.lt_irrefl, false_or, true_and]; exact ih
theorem word_lt : ∀ (a b : List Nat) (s t : List Int), a ≠ b → decide (a.map (fun c : Nat => (c : Int) + 1) ++ 0 :: s < b.map (fun c : Nat => (c : Int) + 1) ++ 0 :: t) = decide (a < b)
  | [], [], _, _, h => absurd rfl h
  | [], b :: bs, s, t, h => by
    simp only [List.map_nil, List.nil_append, List.map_cons, List.cons_append, List.cons_lt_cons_iff]
    have : (0 : Int) < (b : Int) + 1 := by omega
    simp [this]
  | a :: as, [], s, t, h => by
    simp only [List.map_nil, List.nil_append, List.map_cons, List.cons_append, List.cons_lt_cons_iff]
    have h1 : ¬ (a : Int) + 1 < 0 := by omega
    have h2 : ¬ (a : Int) + 1 = 0 := by omega
    simp [h1, h2]
  | a :: as, b :: bs, s, t, h => by
    by_cases e : a = b
    · subst e
      have ih := word_lt as bs s t fun z => h (by rw [z])
      simp only [List.map_cons, List.cons_append, List.cons_lt_cons_iff, Int.lt_irrefl, false_or, true_and, Nat.lt_irrefl] at ih ⊢
      exact ih
    · have e' : ¬ (a : Int) + 1 = (b : Int) + 1 := by omega
      simp only [List.map_cons, List.cons_append, List.cons_lt_cons_iff, e, e', false_and, or_false]
      have : (a : Int) + 1 < (b : Int) + 1 ↔ a < b := by omega
      simp [this]
mutual
theorem dlt_toks : ∀ (x y : D) (k : Bool), x ≠ y → dlt x y = some k → ∀ s t, decide (x.toks ++ s < y.toks ++ t) = k
  | .int i, .int j, k, hne, h, s, t => by
    have : ¬ i = j := fun z => hne (by rw [z])
    simp only [dlt, Option.some.injEq] at h
    subst h
    simp [D.toks, List.cons_lt_cons_iff, this]
  | .str a, .str b, k, hne, h, s, t => by
    simp only [dlt, Option.some.injEq] at h
    subst h
    have := word_lt a.cps.toList b.cps.toList s t fun z => hne (by rw [cps_inj z])
    simp only [D.toks, List.cons_append, List.append_assoc, List.nil_append, List.cons_lt_cons_iff, Int.lt_irrefl, false_or, true_and]
    exact this
  | .tup xs, .tup ys, k, hne, h, s, t => by
    have := dlts_toks xs ys k (fun z => hne (by rw [z])) (by simpa only [dlt] using h) s t
    simp only [D.toks, List.cons_append, List.cons_lt_cons_iff, Int.lt_irrefl, false_or, true_and]
    exact this
  | .int _, .str _, _, _, h, _, _ | .int _, .tup _, _, _, h, _, _ | .int _, .non, _, _, h, _, _ | .int _, .bl _, _, _, h, _, _ | .int _, .ref _, _, _, h, _, _ => by simp [dlt] at h
  | .str _, .int _, _, _, h, _, _ | .str _, .tup _, _, _, h, _, _ | .str _, .non, _, _, h, _, _ | .str _, .bl _, _, _, h, _, _ | .str _, .ref _, _, _, h, _, _ => by simp [dlt] at h
  | .tup _, .int _, _, _, h, _, _ | .tup _, .str _, _, _, h, _, _ | .tup _, .non, _, _, h, _, _ | .tup _, .bl _, _, _, h, _, _ | .tup _, .ref _, _, _, h, _, _ => by simp [dlt] at h
  | .non, _, _, _, h, _, _ => by simp [dlt] at h
  | .bl _, _, _, _, h, _, _ => by simp [dlt] at h
  | .ref _, _, _, _, h, _, _ => by simp [dlt] at h
theorem dlts_toks : ∀ (xs ys : List D) (k : Bool), xs ≠ ys → dlts xs ys = some k → ∀ s t, decide (D.toksAll xs ++ s < D.toksAll ys ++ t) = k
  | [], [], _, hne, _, _, _ => absurd rfl hne
  | [], y :: ys, k, _, h, s, t => by
    simp only [dlts, Option.some.injEq] at h
    subst h
    simp [D.toksAll, List.cons_lt_cons_iff]
  | x :: xs, [], k, _, h, s, t => by
    simp only [dlts, Option.some.injEq] at h
    subst h
    simp [D.toksAll, List.cons_lt_cons_iff]
  | x :: xs, y :: ys, k, hne, h, s, t => by
    simp only [D.toksAll, List.cons_append, List.append_assoc, List.cons_lt_cons_iff, Int.lt_irrefl, false_or, true_and]
    unfold dlts at h
    by_cases e : x = y
    · subst e
      rw [if_pos rfl] at h
      have := dlts_toks xs ys k (fun z => hne (by rw [z])) h s t
      rw [← this]
      apply decide_eq_decide.mpr
      exact app_lt _
    · rw [if_neg e] at h
      exact dlt_toks x y k e h _ _
end
theorem dlt_tlt {x y : D} {k : Bool} (hne : x ≠ y) (h : dlt x y = some k) : tlt x y = k := by
  have := dlt_toks x y k hne h [] []
  simpa [tlt] using this
end DL
/-! The D layer: sorted of data. -/
namespace DL
open PySem PySem.Spec L2 PyProof.Rows PySem.SeqAt

/-! ### data that may be compared -/
mutual
def D.okS : D → Bool
  | .non => true
  | .int _ => true
  | .str x => PyData.strOk x
  | .tup xs => D.okSs xs
  | .bl _ => false
  | .ref _ => false
def D.okSs : List D → Bool
  | [] => true
  | d :: ds => D.okS d && D.okSs ds
end
mutual
def D.dep : D → Nat
  | .tup xs => D.deps xs + 1
  | _ => 0
def D.deps : List D → Nat
  | [] => 0
  | d :: ds => max (D.dep d) (D.deps ds)
end
mutual
def RdV (h : Heap) : D → Value → Prop
  | .non, u => u = .none
  | .int i, u => ∃ t, u = .int i t
  | .str x, u => ∃ t, u = .str x t
  | .tup xs, u => ∃ a o vs n, u = .ref a ∧ h.get? a = some o ∧ o.cls = .type "tuple" ∧ o.data = .seq vs n ∧ RdVs h xs vs.toList
  | .bl _, _ => False
  | .ref _, _ => False
def RdVs (h : Heap) : List D → List Value → Prop
  | [], us => us = []
  | d :: ds, us => ∃ u r, us = u :: r ∧ RdV h d u ∧ RdVs h ds r
end
theorem okSs_cons {d : D} {ds : List D} (h : D.okSs (d :: ds) = true) : d.okS = true ∧ D.okSs ds = true := by
  simpa [D.okSs] using h
mutual
theorem rd_reads {h : Heap} : ∀ (d : D) (u : Value), d.okS = true → RdV h d u → ∃ p as, d.py = some p ∧ Reads h u p as ∧ p.canLay0 = true ∧ p.depth = d.dep
  | .non, _, _, r => by obtain rfl := r; exact ⟨_, _, rfl, .none, rfl, rfl⟩
  | .int i, _, _, r => by obtain ⟨t, rfl⟩ := r; exact ⟨_, _, rfl, .int _ _, rfl, rfl⟩
  | .str x, _, o, r => by obtain ⟨t, rfl⟩ := r; exact ⟨_, _, rfl, .str _ _, o, rfl⟩
  | .tup xs, _, o, r => by
    obtain ⟨a, ob, vs, n, rfl, h1, h2, h3, h4⟩ := r
    obtain ⟨ps, as, e, rr, c, dd⟩ := rds_reads xs vs.toList o h4
    exact ⟨.tuple ps, as, by simp only [D.py, e, Option.map_some], .tuple h1 h2 h3 rr, c, by simp only [PyData.depth, D.dep, dd]⟩
  | .bl _, _, _, r => r.elim
  | .ref _, _, _, r => r.elim
theorem rds_reads {h : Heap} : ∀ (ds : List D) (us : List Value), D.okSs ds = true → RdVs h ds us → ∃ ps as, D.pys ds = some ps ∧ ReadsAll h us ps as ∧ PyData.canLayAll0 ps = true ∧ PyData.depthAll ps = D.deps ds
  | [], _, _, r => by obtain rfl := r; exact ⟨[], _, rfl, .nil, rfl, rfl⟩
  | d :: ds, _, o, r => by
    obtain ⟨u, us, rfl, r1, r2⟩ := r
    obtain ⟨o1, o2⟩ := okSs_cons o
    obtain ⟨p, as, e, rr, c, dd⟩ := rd_reads d u o1 r1
    obtain ⟨ps, bs, e2, rr2, c2, dd2⟩ := rds_reads ds us o2 r2
    exact ⟨p :: ps, _, by simp only [D.pys, e, e2], .cons rr rr2, by simp only [PyData.canLayAll0, c, c2, Bool.and_self], by simp only [PyData.depthAll, D.deps, dd, dd2]⟩
end
mutual
theorem py_eqv : ∀ (x y : D) (p q : PyData), x.okS = true → y.okS = true → x.py = some p → y.py = some q → PyData.eqv p q = decide (x = y)
  | .non, y, p, q, _, oy, hp, hq => by
    cases hp
    cases y <;> first | (cases oy; done) | (cases hq; simp [PyData.eqv]; done) | (cases hq; rw [Bool.eq_iff_iff]; simp [PyData.eqv]; done) | (simp only [D.py] at hq; obtain ⟨ps, _, rfl⟩ := Option.map_eq_some_iff.mp hq; simp [PyData.eqv])
  | .int i, y, p, q, _, oy, hp, hq => by
    cases hp
    cases y <;> first | (cases oy; done) | (cases hq; simp [PyData.eqv]; done) | (cases hq; rw [Bool.eq_iff_iff]; simp [PyData.eqv]; done) | (simp only [D.py] at hq; obtain ⟨ps, _, rfl⟩ := Option.map_eq_some_iff.mp hq; simp [PyData.eqv])
  | .str i, y, p, q, _, oy, hp, hq => by
    cases hp
    cases y <;> first | (cases oy; done) | (cases hq; simp [PyData.eqv]; done) | (cases hq; rw [Bool.eq_iff_iff]; simp [PyData.eqv]; done) | (simp only [D.py] at hq; obtain ⟨ps, _, rfl⟩ := Option.map_eq_some_iff.mp hq; simp [PyData.eqv])
  | .tup xs, y, p, q, ox, oy, hp, hq => by
    simp only [D.py] at hp
    obtain ⟨ps, hps, rfl⟩ := Option.map_eq_some_iff.mp hp
    cases y with
    | tup ys =>
      simp only [D.py] at hq
      obtain ⟨qs, hqs, rfl⟩ := Option.map_eq_some_iff.mp hq
      have := pys_eqv xs ys ps qs ox oy hps hqs
      simp only [PyData.eqv, this, D.tup.injEq]
    | bl _ => cases oy
    | ref _ => cases oy
    | _ => cases hq; simp [PyData.eqv]
  | .bl _, _, _, _, ox, _, _, _ => by cases ox
  | .ref _, _, _, _, ox, _, _, _ => by cases ox
theorem pys_eqv : ∀ (xs ys : List D) (ps qs : List PyData), D.okSs xs = true → D.okSs ys = true → D.pys xs = some ps → D.pys ys = some qs → PyData.eqvAll ps qs = decide (xs = ys)
  | [], ys, ps, qs, _, oy, hp, hq => by
    cases hp
    cases ys with
    | nil => cases hq; simp [PyData.eqvAll]
    | cons y ys =>
      unfold D.pys at hq
      cases e : y.py with
      | none => simp only [e] at hq; cases hq
      | some k =>
        cases e2 : D.pys ys with
        | none => simp only [e, e2] at hq; cases hq
        | some ks => simp only [e, e2] at hq; cases hq; simp [PyData.eqvAll]
  | x :: xs, ys, ps, qs, ox, oy, hp, hq => by
    obtain ⟨o1, o2⟩ := okSs_cons ox
    unfold D.pys at hp
    cases e : x.py with
    | none => simp only [e] at hp; cases hp
    | some k =>
      cases e2 : D.pys xs with
      | none => simp only [e, e2] at hp; cases hp
      | some ks =>
        simp only [e, e2] at hp; cases hp
        cases ys with
        | nil => cases hq; simp [PyData.eqvAll]
        | cons y ys =>
          obtain ⟨o3, o4⟩ := okSs_cons oy
          unfold D.pys at hq
          cases e3 : y.py with
          | none => simp only [e3] at hq; cases hq
          | some k' =>
            cases e4 : D.pys ys with
            | none => simp only [e3, e4] at hq; cases hq
            | some ks' =>
              simp only [e3, e4] at hq; cases hq
              simp only [PyData.eqvAll, py_eqv x y k k' o1 o3 e e3, pys_eqv xs ys ks ks' o2 o4 e2 e4, List.cons.injEq]
              by_cases h1 : x = y <;> by_cases h2 : xs = ys <;> simp [h1, h2]
end
theorem eqAt_d {A : Around} {s : Shared} {x y : D} {u v : Value} (ox : x.okS = true) (oy : y.okS = true) (rx : RdV s.heap x u) (ry : RdV s.heap y v) (hu : A.units + min x.dep y.dep < cLine) : EqAt A s u v (decide (x = y)) := by
  obtain ⟨p, as, e1, r1, c1, d1⟩ := rd_reads x u ox rx
  obtain ⟨q, bs, e2, r2, c2, d2⟩ := rd_reads y v oy ry
  rw [← py_eqv x y p q ox oy e1 e2]
  exact eqAt_reads p q A s u v as bs r1 r2 c1 c2 (by rw [d1, d2]; exact hu)

/-! ### < of tuples: what lies behind the first difference is not compared -/
theorem tup_ltAt (l b : Addr) (items items2 : Array Value) (n n2 : Nat) (dd dd2 : Option Addr) (sl sl2 : Array (Option Value)) (e r : Nat → Bool) :
    Meets (Builtin.«tuple.__lt__» ⟨[.ref l, .ref b], []⟩)
      (fun A R s => s.heap.get? l = some { cls := .type "tuple", dict := dd, data := .seq items n, slots := sl } ∧ s.heap.get? b = some { cls := .type "tuple", dict := dd2, data := .seq items2 n2, slots := sl2 } ∧
        (∀ j (h1 : j < items.size) (h2 : j < items2.size), EqAt A.in1 s items[j] items2[j] (e j)) ∧ (∀ j (h1 : j < items.size) (h2 : j < items2.size), (∀ i, i < j → e i = true) → e j = false → RcLt A.in1 s items[j] items2[j] (r j)) ∧
        R (.ok (.ret (.bool (firstLt e r (decide (items.size < items2.size)) (List.range (min items.size items2.size)))))) s) :=
  .of_wp fun prog w A R s h => by
    obtain ⟨hp, g, d, tk, os⟩ := s; obtain ⟨hl, hb, he, hr, h⟩ := h
    have f2 := AutoSeq1.sub_tuple_tuple
    have hZ : (items.toList.zip items2.toList).length = min items.size items2.size := by simp
    wp_walk using AutoSeq1.wpAny_loadPart' hl, AutoSeq1.wpAny_loadPart' hb, wpAny_forIn_list _ (fun rest b s' => b.1 = none ∧ s' = ⟨hp, g, d, tk, os⟩ ∧ ∃ i, (∀ j, j < i → e j = true) ∧ rest = (items.toList.zip items2.toList).drop i ∧
      R (.ok (.ret (.bool (firstLt e r (decide (items.size < items2.size)) ((List.range (min items.size items2.size)).drop i))))) ⟨hp, g, d, tk, os⟩) _
    case turn =>
      rintro ⟨y, x⟩ rest b s' ⟨hb', rfl, i, hpre, hz, hR⟩
      have hlt : i < (items.toList.zip items2.toList).length := by
        rcases Nat.lt_or_ge i (items.toList.zip items2.toList).length with h' | h'
        · exact h'
        · rw [List.drop_of_length_le h'] at hz; cases hz
      have hm : i < min items.size items2.size := hZ ▸ hlt
      have h1 : i < items.size := Nat.lt_of_lt_of_le hm (Nat.min_le_left _ _)
      have h2 : i < items2.size := Nat.lt_of_lt_of_le hm (Nat.min_le_right _ _)
      rw [List.drop_eq_getElem_cons hlt] at hz
      injection hz with hyx hrest
      have hy : y = items[i] := by have := congrArg Prod.fst hyx; simpa using this
      have hx : x = items2[i] := by have := congrArg Prod.snd hyx; simpa using this
      subst hy hx
      have hd : (List.range (min items.size items2.size)).drop i = i :: (List.range (min items.size items2.size)).drop (i + 1) := by simp [List.drop_eq_getElem_cons, hm]
      rw [hd] at hR
      refine wpAny_bind (he i h1 h2 prog w _ _ ?_)
      cases hy : e i with
      | true =>
        rw [firstLt_yes hy] at hR
        wp_walk
        refine ⟨rfl, rfl, i + 1, fun j hj => ?_, hrest, hR⟩
        rcases Nat.lt_succ_iff_lt_or_eq.mp hj with q | q
        · exact hpre j q
        · rw [q]; exact hy
      | false =>
        rw [firstLt_no hy] at hR
        have hrc : ∀ {E : Value → Shared → Prop} {Q : Value → Shared → Prop}, Q (.bool (r i)) ⟨hp, g, d, tk, os⟩ → wpAny (model prog w) A.in1 (richCompare .Lt items[i] items2[i]) Q E ⟨hp, g, d, tk, os⟩ := fun q => hr i h1 h2 hpre hy prog w _ _ q
        wp_walk using hrc
        exact ⟨_, rfl, hR⟩
    case fin =>
      rintro ⟨b1, b2⟩ s' ⟨hb', rfl, i, hpre, hz, hR⟩
      simp only at hb'
      subst hb'
      have hge : min items.size items2.size ≤ i := by
        rcases Nat.lt_or_ge i (items.toList.zip items2.toList).length with h' | h'
        · rw [List.drop_eq_getElem_cons h'] at hz; cases hz
        · exact hZ ▸ h'
      rw [List.drop_of_length_le (by simpa using hge)] at hR
      wp_walk
      exact ⟨_, rfl, by simpa [Builtin.Tuple.tupleCompareSizes, firstLt] using hR⟩
    case h =>
      exact ⟨rfl, rfl, 0, fun j hj => absurd hj (Nat.not_lt_zero _), rfl, by simpa using h⟩
section
variable {A : Around} {s : Shared}
theorem rc_tup {l b : Addr} {items items2 : Array Value} {e r : Nat → Bool} (hl : s.heap.IsTuple l items) (hb : s.heap.IsTuple b items2) (hu : A.units < cLine)
    (he : ∀ j (h1 : j < items.size) (h2 : j < items2.size), EqAt A.in1 s items[j] items2[j] (e j)) (hr : ∀ j (h1 : j < items.size) (h2 : j < items2.size), (∀ i, i < j → e i = true) → e j = false → RcLt A.in1 s items[j] items2[j] (r j)) :
    RcLt A s (.ref l) (.ref b) (firstLt e r (decide (items.size < items2.size)) (List.range (min items.size items2.size))) := fun prog w E Q h => by
  obtain ⟨⟨cls, dd, data, sl⟩, ho, hc, n, hd⟩ := id hl
  obtain ⟨⟨cls2, dd2, data2, sl2⟩, ho2, hc2, n2, hd2⟩ := id hb
  simp only at hc hd hc2 hd2
  subst hc hd hc2 hd2
  exact richCompare_meets_room (op := .Lt) ⟨_, ho, rfl⟩ ⟨_, ho2, rfl⟩ F.slot_tuple_lt F.entry_tuple_lt (F.args_tuple_lt_2 _ _) (tup_ltAt l b items items2 n n2 dd dd2 sl sl2 e r)
    ⟨ho, ho2, he, hr, show Value.bool (firstLt e r (decide (items.size < items2.size)) (List.range (min items.size items2.size))) ≠ Value.notImplemented ∧ Q (.bool (firstLt e r (decide (items.size < items2.size)) (List.range (min items.size items2.size)))) s from ⟨(fun x => nomatch x), h⟩⟩ hu
theorem call_tup_lt {prog : Program} {w : World} {E : Value → Shared → Prop} {Q : Value → Shared → Prop} {l b : Addr} {items items2 : Array Value} {e r : Nat → Bool} (hl : s.heap.IsTuple l items) (hb : s.heap.IsTuple b items2)
    (he : ∀ j (h1 : j < items.size) (h2 : j < items2.size), EqAt A.in1 s items[j] items2[j] (e j)) (hr : ∀ j (h1 : j < items.size) (h2 : j < items2.size), (∀ i, i < j → e i = true) → e j = false → RcLt A.in1 s items[j] items2[j] (r j))
    (h : Q (.bool (firstLt e r (decide (items.size < items2.size)) (List.range (min items.size items2.size)))) s) : wpAny (model prog w) A (call (.builtin "tuple.__lt__") [.ref l, .ref b]) Q E s := by
  obtain ⟨⟨cls, dd, data, sl⟩, ho, hc, n, hd⟩ := id hl
  obtain ⟨⟨cls2, dd2, data2, sl2⟩, ho2, hc2, n2, hd2⟩ := id hb
  simp only at hc hd hc2 hd2
  subst hc hd hc2 hd2
  exact call_meets F.slot_tuple_lt ⟨_, ho, rfl⟩ F.entry_tuple_lt (F.args_tuple_lt_2 _ _) (tup_ltAt l b items items2 n n2 dd dd2 sl sl2 e r) ⟨ho, ho2, he, hr, h⟩
end

/-! ### of data -/
theorem rdVs_get {h : Heap} : ∀ {ds : List D} {us : List Value} {i : Nat} {d : D}, RdVs h ds us → ds[i]? = some d → ∃ u, us[i]? = some u ∧ RdV h d u
  | [], _, _, _, _, e => by simp at e
  | d :: ds, _, 0, _, r, e => by
    obtain ⟨u, us, rfl, r1, _⟩ := r
    simp at e; subst e
    exact ⟨u, rfl, r1⟩
  | d :: ds, _, i + 1, x, r, e => by
    obtain ⟨u, us, rfl, _, r2⟩ := r
    obtain ⟨v, h1, h2⟩ := rdVs_get (i := i) (d := x) r2 (by simpa using e)
    exact ⟨v, by simpa using h1, h2⟩
theorem rdVs_len {h : Heap} : ∀ {ds : List D} {us : List Value}, RdVs h ds us → us.length = ds.length
  | [], _, r => by rw [show _ = [] from r]; rfl
  | d :: ds, _, r => by
    obtain ⟨u, us, rfl, _, r2⟩ := r
    rw [List.length_cons, List.length_cons, rdVs_len r2]
theorem okSs_get : ∀ {ds : List D} {i : Nat} {d : D}, D.okSs ds = true → ds[i]? = some d → d.okS = true
  | [], _, _, _, e => by simp at e
  | d :: ds, 0, _, o, e => by
    simp at e; subst e
    exact (okSs_cons o).1
  | d :: ds, i + 1, x, o, e => okSs_get (i := i) (okSs_cons o).2 (by simpa using e)
theorem deps_get : ∀ {ds : List D} {i : Nat} {d : D}, ds[i]? = some d → d.dep ≤ D.deps ds
  | [], _, _, e => by simp at e
  | d :: ds, 0, _, e => by
    simp at e; subst e
    simp only [D.deps]; exact Nat.le_max_left _ _
  | d :: ds, i + 1, x, e => by
    simp only [D.deps]
    exact Nat.le_trans (deps_get (i := i) (by simpa using e)) (Nat.le_max_right _ _)
def eAt (xs ys : List D) (j : Nat) : Bool := decide (xs.getD j .non = ys.getD j .non)
def rAt (xs ys : List D) (j : Nat) : Bool := (dlt (xs.getD j .non) (ys.getD j .non)).getD false
theorem firstLt_shift (e r : Nat → Bool) (fin : Bool) : ∀ l : List Nat, firstLt e r fin (l.map (· + 1)) = firstLt (fun j => e (j + 1)) (fun j => r (j + 1)) fin l
  | [] => rfl
  | j :: t => by
    rw [List.map_cons]
    cases h : e (j + 1) with
    | true => rw [firstLt_yes h, firstLt_yes (e := fun j => e (j + 1)) h, firstLt_shift]
    | false => rw [firstLt_no h, firstLt_no (e := fun j => e (j + 1)) h]
theorem dlts_first : ∀ (xs ys : List D) (k : Bool), dlts xs ys = some k → firstLt (eAt xs ys) (rAt xs ys) (decide (xs.length < ys.length)) (List.range (min xs.length ys.length)) = k
  | [], [], k, h => by cases h; rfl
  | [], _ :: _, k, h => by cases h; simp [firstLt]
  | _ :: _, [], k, h => by cases h; simp [firstLt]
  | x :: xs, y :: ys, k, h => by
    have em : min (x :: xs).length (y :: ys).length = min xs.length ys.length + 1 := by simp
    rw [em, List.range_succ_eq_map]
    unfold dlts at h
    by_cases e : x = y
    · rw [if_pos e] at h
      have : eAt (x :: xs) (y :: ys) 0 = true := by simp [eAt, e]
      rw [firstLt_yes this, show Nat.succ = (· + 1) from rfl, firstLt_shift, ← dlts_first xs ys k h]
      simp [eAt, rAt]
      rfl
    · rw [if_neg e] at h
      have : eAt (x :: xs) (y :: ys) 0 = false := by simp [eAt, e]
      rw [firstLt_no this]
      simp [rAt, h]
theorem dlts_at : ∀ (xs ys : List D) (k : Bool) (j : Nat), dlts xs ys = some k → j < xs.length → j < ys.length → (∀ i, i < j → eAt xs ys i = true) → eAt xs ys j = false → dlt (xs.getD j .non) (ys.getD j .non) = some (rAt xs ys j)
  | [], _, _, _, _, h, _, _, _ => absurd h (Nat.not_lt_zero _)
  | _ :: _, [], _, _, _, _, h, _, _ => absurd h (Nat.not_lt_zero _)
  | x :: xs, y :: ys, k, 0, h, _, _, _, he => by
    unfold dlts at h
    have : ¬ x = y := by simpa [eAt] using he
    rw [if_neg this] at h
    simp [rAt, h]
  | x :: xs, y :: ys, k, j + 1, h, h1, h2, hp, he => by
    have h0 := hp 0 (Nat.succ_pos _)
    have : x = y := by simpa [eAt] using h0
    unfold dlts at h
    rw [if_pos this] at h
    have := dlts_at xs ys k j h (by simpa using h1) (by simpa using h2) (fun i hi => by simpa [eAt] using hp (i + 1) (by omega)) (by simpa [eAt] using he)
    simpa [rAt] using this
theorem min_le2 {a b c d u : Nat} (h : u + min a b < cLine) (h1 : c ≤ a) (h2 : d ≤ b) : u + min c d < cLine := Nat.lt_of_le_of_lt (Nat.add_le_add_left (by omega) _) h
theorem get_of {vs : Array Value} {j : Nat} (hj : j < vs.size) {u : Value} (h : vs.toList[j]? = some u) : vs[j] = u := by
  rw [Array.getElem?_toList, Array.getElem?_eq_getElem hj] at h
  exact Option.some.inj h
theorem getD_of {ds : List D} {j : Nat} (hj : j < ds.length) : ds[j]? = some (ds.getD j .non) := by
  rw [List.getD_eq_getElem?_getD, List.getElem?_eq_getElem hj]; rfl
/-- x < y -/
theorem rc_d : ∀ (N : Nat) (x y : D) (k : Bool) (A : Around) (s : Shared) (u v : Value), x.dep ≤ N → x.okS = true → y.okS = true → RdV s.heap x u → RdV s.heap y v → dlt x y = some k → A.units + min x.dep y.dep < cLine → RcLt A s u v k := by
  intro N
  induction N with
  | zero =>
    intro x y k A s u v hN ox oy rx ry h hu
    cases x with
    | int i =>
      cases y with
      | int j =>
        obtain ⟨t, rfl⟩ := rx
        obtain ⟨t', rfl⟩ := ry
        cases h
        intro prog w E Q hq
        exact P.lt_int hq
      | _ => cases h
    | str i =>
      cases y with
      | str j =>
        obtain ⟨t, rfl⟩ := rx
        obtain ⟨t', rfl⟩ := ry
        cases h
        intro prog w E Q hq
        exact P.lt_str hq
      | _ => cases h
    | tup xs => simp [D.dep] at hN
    | _ => cases h
  | succ N ih =>
    intro x y k A s u v hN ox oy rx ry h hu
    cases x with
    | int i =>
      cases y with
      | int j =>
        obtain ⟨t, rfl⟩ := rx
        obtain ⟨t', rfl⟩ := ry
        cases h
        intro prog w E Q hq
        exact P.lt_int hq
      | _ => cases h
    | str i =>
      cases y with
      | str j =>
        obtain ⟨t, rfl⟩ := rx
        obtain ⟨t', rfl⟩ := ry
        cases h
        intro prog w E Q hq
        exact P.lt_str hq
      | _ => cases h
    | tup xs =>
      cases y with
      | tup ys =>
        obtain ⟨a, o, vs, n, rfl, h1, h2, h3, h4⟩ := rx
        obtain ⟨a', o', vs', n', rfl, k1, k2, k3, k4⟩ := ry
        have hd : dlts xs ys = some k := h
        have n1 : vs.size = xs.length := by simpa using rdVs_len h4
        have n2 : vs'.size = ys.length := by simpa using rdVs_len k4
        rw [← dlts_first xs ys k hd, ← n1, ← n2]
        have item : ∀ j, j < xs.length → j < ys.length → ∃ p q, vs.toList[j]? = some p ∧ vs'.toList[j]? = some q ∧ RdV s.heap (xs.getD j .non) p ∧ RdV s.heap (ys.getD j .non) q ∧ (xs.getD j .non).okS = true ∧ (ys.getD j .non).okS = true ∧ (xs.getD j .non).dep ≤ D.deps xs ∧ (ys.getD j .non).dep ≤ D.deps ys := fun j j1 j2 => by
          obtain ⟨p, e1, r1⟩ := rdVs_get h4 (getD_of j1)
          obtain ⟨q, e2, r2⟩ := rdVs_get k4 (getD_of j2)
          exact ⟨p, q, e1, e2, r1, r2, okSs_get ox (getD_of j1), okSs_get oy (getD_of j2), deps_get (getD_of j1), deps_get (getD_of j2)⟩
        have hu2 : A.in1.units + min (D.deps xs) (D.deps ys) < cLine := room_in hu
        refine rc_tup ⟨_, h1, h2, _, h3⟩ ⟨_, k1, k2, _, k3⟩ (room_here hu) (fun j j1 j2 => ?_) fun j j1 j2 hpre hj => ?_
        · obtain ⟨p, q, e1, e2, r1, r2, o1, o2, d1, d2⟩ := item j (n1 ▸ j1) (n2 ▸ j2)
          rw [get_of j1 e1, get_of j2 e2]
          exact eqAt_d o1 o2 r1 r2 (min_le2 hu2 d1 d2)
        · obtain ⟨p, q, e1, e2, r1, r2, o1, o2, d1, d2⟩ := item j (n1 ▸ j1) (n2 ▸ j2)
          rw [get_of j1 e1, get_of j2 e2]
          have hN2 : D.deps xs ≤ N := by simp only [D.dep] at hN; omega
          exact ih _ _ _ _ s p q (Nat.le_trans d1 hN2) o1 o2 r1 r2 (dlts_at xs ys k j hd (n1 ▸ j1) (n2 ▸ j2) hpre hj) (min_le2 hu2 d1 d2)
      | _ => cases h
    | _ => cases h
end DL
/-! The D layer: sorted of data, the rule. -/
namespace DL
open PySem PySem.Spec L2 PyProof.Rows PySem.SeqAt PySem.W SrtO

/-! ### the sorted list -/
def insD (x : D) : List D → List D
  | [] => [x]
  | y :: ys => if tlt y x = true then y :: insD x ys else x :: y :: ys
def isort (xs : List D) : List D := xs.foldr insD []
theorem insD_perm (x : D) : ∀ ys : List D, (insD x ys).Perm (x :: ys)
  | [] => List.Perm.refl _
  | y :: ys => by
    unfold insD
    split
    · exact ((insD_perm x ys).cons y).trans (List.Perm.swap x y ys)
    · exact List.Perm.refl _
theorem isort_perm : ∀ xs : List D, (isort xs).Perm xs
  | [] => List.Perm.refl _
  | x :: xs => (insD_perm x (isort xs)).trans ((isort_perm xs).cons x)
abbrev UpD (xs : List D) : Prop := xs.Pairwise fun x y => tlt y x = false
theorem insD_up {x : D} : ∀ {ys : List D}, UpD ys → UpD (insD x ys)
  | [], _ => List.pairwise_singleton _ _
  | y :: ys, h => by
    obtain ⟨h1, h2⟩ := List.pairwise_cons.mp h
    unfold insD
    split
    · rename_i hy
      refine List.pairwise_cons.mpr ⟨fun z hz => ?_, insD_up h2⟩
      rcases List.mem_cons.mp ((insD_perm x ys).mem_iff.mp hz) with e | hz
      · rw [e]; exact tlt_asym hy
      · exact h1 z hz
    · rename_i hy
      have hy' : tlt y x = false := by simpa using hy
      refine List.pairwise_cons.mpr ⟨fun z hz => ?_, h⟩
      rcases List.mem_cons.mp hz with e | hz
      · rw [e]; exact hy'
      · exact tlt_neg hy' (h1 z hz)
theorem isort_up : ∀ xs : List D, UpD (isort xs)
  | [] => List.Pairwise.nil
  | x :: xs => insD_up (isort_up xs)
theorem up_uniq : ∀ {l m : List D}, UpD l → UpD m → l.Perm m → l = m
  | [], m, _, _, h => h.nil_eq
  | x :: l, [], _, _, h => absurd h.length_eq (by simp)
  | x :: l, y :: m, hl, hm, h => by
    obtain ⟨a1, a2⟩ := List.pairwise_cons.mp hl
    obtain ⟨b1, b2⟩ := List.pairwise_cons.mp hm
    have h1 : tlt x y = false := by
      rcases List.mem_cons.mp (h.mem_iff.mp List.mem_cons_self) with e | e
      · rw [e]; exact tlt_irr _
      · exact b1 x e
    have h2 : tlt y x = false := by
      rcases List.mem_cons.mp (h.mem_iff.mpr List.mem_cons_self) with e | e
      · rw [e]; exact tlt_irr _
      · exact a1 y e
    have e := tlt_conn h1 h2
    subst e
    rw [up_uniq a2 b2 h.cons_inv]
mutual
theorem dlt_self : ∀ (x : D) (k : Bool), dlt x x = some k → k = false
  | .int i, k, h => by simpa [dlt] using h.symm
  | .str i, k, h => by
    simp only [dlt, Option.some.injEq] at h
    rw [← h]
    exact decide_eq_false (List.lt_irrefl _)
  | .tup xs, k, h => dlts_self xs k h
  | .non, _, h => by cases h
  | .bl _, _, h => by cases h
  | .ref _, _, h => by cases h
theorem dlts_self : ∀ (xs : List D) (k : Bool), dlts xs xs = some k → k = false
  | [], k, h => by cases h; rfl
  | x :: xs, k, h => by
    unfold dlts at h
    rw [if_pos rfl] at h
    exact dlts_self xs k h
end
theorem dlt_tlt' {x y : D} {k : Bool} (h : dlt x y = some k) : tlt x y = k := by
  by_cases e : x = y
  · subst e
    rw [dlt_self x k h, tlt_irr]
  · exact dlt_tlt e h

/-! ### what a value is as data -/
mutual
theorem rd_uniq {h : Heap} : ∀ (d e : D) (u : Value), RdV h d u → RdV h e u → d = e
  | .non, e, u, r, r' => by
    obtain rfl := r
    cases e with
    | int j => obtain ⟨t', z⟩ := r'; cases z
    | str j => obtain ⟨t', z⟩ := r'; cases z
    | tup xs => obtain ⟨_, _, _, _, z, _⟩ := r'; cases z
    | non => rfl
    | _ => exact r'.elim
  | .int i, e, u, r, r' => by
    obtain ⟨t, rfl⟩ := r
    cases e with
    | int j => obtain ⟨t', z⟩ := r'; cases z; rfl
    | str j => obtain ⟨t', z⟩ := r'; cases z
    | tup xs => obtain ⟨_, _, _, _, z, _⟩ := r'; cases z
    | non => cases r'
    | _ => exact r'.elim
  | .str i, e, u, r, r' => by
    obtain ⟨t, rfl⟩ := r
    cases e with
    | int j => obtain ⟨t', z⟩ := r'; cases z
    | str j => obtain ⟨t', z⟩ := r'; cases z; rfl
    | tup xs => obtain ⟨_, _, _, _, z, _⟩ := r'; cases z
    | non => cases r'
    | _ => exact r'.elim
  | .tup xs, e, u, r, r' => by
    obtain ⟨a, o, vs, n, rfl, h1, h2, h3, h4⟩ := r
    cases e with
    | int j => obtain ⟨t', z⟩ := r'; cases z
    | str j => obtain ⟨t', z⟩ := r'; cases z
    | tup ys =>
      obtain ⟨a', o', vs', n', z, k1, k2, k3, k4⟩ := r'
      cases z
      rw [h1] at k1
      cases k1
      rw [h3] at k3
      cases k3
      rw [rds_uniq xs ys _ h4 k4]
    | non => cases r'
    | _ => exact r'.elim
  | .bl _, _, _, r, _ => r.elim
  | .ref _, _, _, r, _ => r.elim
theorem rds_uniq {h : Heap} : ∀ (ds es : List D) (us : List Value), RdVs h ds us → RdVs h es us → ds = es
  | [], es, us, r, r' => by
    obtain rfl := r
    cases es with
    | nil => rfl
    | cons e es => obtain ⟨_, _, z, _⟩ := r'; cases z
  | d :: ds, es, us, r, r' => by
    obtain ⟨u, us, rfl, r1, r2⟩ := r
    cases es with
    | nil => cases r'
    | cons e es =>
      obtain ⟨u', us', z, k1, k2⟩ := r'
      cases z
      rw [rd_uniq d e _ r1 k1, rds_uniq ds es _ r2 k2]
end
mutual
theorem rd_keep {h h' : Heap} (k : ∀ b o, h.get? b = some o → h'.get? b = some o) : ∀ (d : D) (u : Value), RdV h d u → RdV h' d u
  | .non, _, r => r
  | .int _, _, r => r
  | .str _, _, r => r
  | .tup xs, _, r => by
    obtain ⟨a, o, vs, n, rfl, h1, h2, h3, h4⟩ := r
    exact ⟨a, o, vs, n, rfl, k _ _ h1, h2, h3, rds_keep k xs _ h4⟩
  | .bl _, _, r => r
  | .ref _, _, r => r
theorem rds_keep {h h' : Heap} (k : ∀ b o, h.get? b = some o → h'.get? b = some o) : ∀ (ds : List D) (us : List Value), RdVs h ds us → RdVs h' ds us
  | [], _, r => r
  | d :: ds, _, r => by
    obtain ⟨u, us, rfl, r1, r2⟩ := r
    exact ⟨u, us, rfl, rd_keep k d u r1, rds_keep k ds us r2⟩
end
open Classical in
noncomputable def rdD (h : Heap) (u : Value) : D := if e : ∃ d, RdV h d u then Classical.choose e else .non
theorem rdD_eq {h : Heap} {d : D} {u : Value} (r : RdV h d u) : rdD h u = d := by
  have e : ∃ d, RdV h d u := ⟨d, r⟩
  unfold rdD
  rw [dif_pos e]
  exact rd_uniq _ _ u (Classical.choose_spec e) r
section
variable {X : Cx} {pins : List (Addr × Obj)} {σ : L2.St} {H : Hp} {s : Shared} {ι : Nat → Addr} {n : Nat}
mutual
theorem rep_rd (I : Inv X pins σ H s) : ∀ (d : D) (v : V) (u : Value), d.okS = true → Rep X.K ι n H d v → RelV v u → RdV s.heap d u
  | .non, v, u, _, r, ru => by obtain rfl := r; exact ru
  | .int i, v, u, _, r, ru => by obtain rfl := r; exact ru
  | .str x, v, u, _, r, ru => by obtain rfl := r; exact ru
  | .tup ds, v, u, o, r, ru => by
    obtain ⟨a, vs, rfl, h1, h2⟩ := r
    obtain rfl : u = Value.ref a := ru
    obtain ⟨its, rv, p, _⟩ := I.tuple h1.sq
    obtain ⟨ob, ho, hc, k, hd⟩ := (show s.heap.IsTuple a its.toArray from p)
    exact ⟨a, ob, its.toArray, k, rfl, ho, hc, hd, by simpa using reps_rd I ds vs its o h2 rv⟩
  | .bl _, _, _, o, _, _ => by cases o
  | .ref _, _, _, o, _, _ => by cases o
theorem reps_rd (I : Inv X pins σ H s) : ∀ (ds : List D) (vs : List V) (us : List Value), D.okSs ds = true → Reps X.K ι n H ds vs → Vals vs us → RdVs s.heap ds us
  | [], vs, us, _, r, rv => by
    obtain rfl : vs = [] := r
    cases rv
    exact rfl
  | d :: ds, vs, us, o, r, rv => by
    obtain ⟨v, w, rfl, r1, r2⟩ := r
    obtain ⟨o1, o2⟩ := okSs_cons o
    cases rv with
    | cons a b => exact ⟨_, _, rfl, rep_rd I d v _ o1 r1 a, reps_rd I ds w _ o2 r2 b⟩
end
end

/-! ### kinds of keys -/
section
variable {prog : Program} {w : World} {A : Around} {E : Value → Shared → Prop} {s : Shared}
theorem wp_mapM {α β : Type} {M : Model} {f : α → Sem β} : ∀ (vs : List α) (rs : List β) {Q : List β → Shared → Prop}, Paired (fun v r => ∀ Q' : β → Shared → Prop, Q' r s → wpAny M A (f v) Q' E s) vs rs → Q rs s → wpAny M A (vs.mapM f) Q E s
  | [], _, _, h, q => by cases h; rw [List.mapM_nil]; exact wpAny_pure q
  | v :: vs, _, Q, h, q => by
    cases h with
    | @cons _ r _ rs h t =>
      rw [List.mapM_cons]
      exact wpAny_bind (h _ (wpAny_bind (wp_mapM vs rs (Q := fun bs s' => wpAny M A (pure (r :: bs)) Q E s') t (wpAny_pure q))))
def D.isT : D → Bool
  | .tup _ => true
  | _ => false
def tyS : D → String
  | .int _ => "int"
  | .str _ => "str"
  | .tup _ => "tuple"
  | _ => "NoneType"
theorem ty_rd {d : D} {u : Value} (r : RdV s.heap d u) {M : Model} {Q : Value → Shared → Prop} (q : Q (.type (tyS d)) s) : wpAny M A (typeOf u) Q E s := by
  cases d with
  | non => obtain rfl := r; exact wpAny_typeOf rfl q
  | int i => obtain ⟨t, rfl⟩ := r; exact wpAny_typeOf (typeIs_int s i t) q
  | str i => obtain ⟨t, rfl⟩ := r; exact wpAny_typeOf (typeIs_str s i t) q
  | tup xs => obtain ⟨a, o, vs, n, rfl, h1, h2, _⟩ := r; exact wpAny_typeOf ⟨o, h1, h2⟩ q
  | bl _ => exact r.elim
  | ref _ => exact r.elim
/-- the first item of a tuple -/
def FstR (h : Heap) (d : D) (u : Value) (f : Option Value) : Prop := match d with
  | .tup (y :: _) => ∃ a o vs n u0 rest, u = .ref a ∧ h.get? a = some o ∧ o.data = .seq vs n ∧ vs.toList = u0 :: rest ∧ f = some u0 ∧ RdV h y u0
  | _ => f = none
inductive Fsts (h : Heap) : List D → List Value → List (Option Value) → Prop where
  | nil : Fsts h [] [] []
  | cons {d ds u us f fs} : RdV h d u → FstR h d u f → Fsts h ds us fs → Fsts h (d :: ds) (u :: us) (f :: fs)
theorem fst_ex {h : Heap} : ∀ {ds : List D} {us : List Value}, RdVs h ds us → ∃ fs : List (Option Value), Fsts h ds us fs
  | [], _, r => by obtain rfl := r; exact ⟨[], .nil⟩
  | d :: ds, _, r => by
    obtain ⟨u, us, rfl, r1, r2⟩ := r
    obtain ⟨fs, h⟩ := fst_ex r2
    cases d with
    | tup xs =>
      cases xs with
      | nil => exact ⟨none :: fs, .cons r1 rfl h⟩
      | cons y ys =>
        obtain ⟨a, o, vs, n, rfl, h1, h2, h3, u0, us0, e0, r0, z⟩ := id r1
        exact ⟨some u0 :: fs, .cons r1 ⟨a, o, vs, n, u0, us0, rfl, h1, h3, e0, rfl, r0⟩ h⟩
    | _ => exact ⟨none :: fs, .cons r1 rfl h⟩
theorem ty_ne {d : D} (h : d.isT = false) : (Value.type (tyS d) != Value.type "tuple") = true := by
  cases d <;> first | (simp [tyS]; done) | cases h
theorem ty_no (xs : List D) : ¬ (Value.type (tyS (.tup xs)) != Value.type "tuple") = true := by simp [tyS]
theorem fst_wp {M : Model} {d : D} {u : Value} {f : Option Value} (r : RdV s.heap d u) (hf : FstR s.heap d u f) {Q : Option Value → Shared → Prop} (q : Q f s) : wpAny M A (firstOfTuple' u) Q E s := by
  rw [kas_first_eq]
  refine wpAny_bind (ty_rd r ?_)
  cases d with
  | tup xs =>
    obtain ⟨a, o, vs, n, rfl, h1, h2, h3, h4⟩ := r
    rw [if_neg (ty_no xs)]
    refine wpAny_bind (listItems_at h1 h3 (wpAny_pure ?_))
    cases xs with
    | nil =>
      obtain rfl : f = none := hf
      have : vs.toList = [] := h4
      have e : vs[0]? = none := by rw [← Array.getElem?_toList, this]; rfl
      rw [e]; exact q
    | cons y ys =>
      obtain ⟨a', o', vs', n', u0, rest, e1, e2, e3, e4, rfl, r0⟩ := hf
      cases e1
      rw [h1] at e2
      cases e2
      rw [h3] at e3
      cases e3
      have e : vs[0]? = some u0 := by rw [← Array.getElem?_toList, e4]; rfl
      rw [e]; exact q
  | int i => obtain rfl : f = none := hf; rw [if_pos (ty_ne rfl)]; exact wpAny_pure q
  | str i => obtain rfl : f = none := hf; rw [if_pos (ty_ne rfl)]; exact wpAny_pure q
  | non => obtain rfl : f = none := hf; rw [if_pos (ty_ne rfl)]; exact wpAny_pure q
  | bl _ => exact r.elim
  | ref _ => exact r.elim
theorem fsts_paired {M : Model} {ds : List D} {us : List Value} {fs : List (Option Value)} (h : Fsts s.heap ds us fs) : Paired (fun (v : Value) r => ∀ Q' : Option Value → Shared → Prop, Q' r s → wpAny M A (firstOfTuple' v) Q' E s) us fs := by
  induction h with
  | nil => exact .nil
  | cons r f _ ih => exact .cons (fun Q' q => fst_wp r f q) ih
def fstT : D → Bool
  | .tup (y :: _) => y.isT
  | _ => false
def isNe : D → Bool
  | .tup (_ :: _) => true
  | _ => false
theorem fsts_all {h : Heap} {ds : List D} {us : List Value} {fs : List (Option Value)} (k : Fsts h ds us fs) : fs.all (fun x => x.isSome) = ds.all isNe := by
  induction k with
  | nil => rfl
  | @cons d ds u us f fs r hf _ ih =>
    rw [List.all_cons, List.all_cons, ih]
    congr 1
    cases d with
    | tup xs =>
      cases xs with
      | nil => obtain rfl : f = none := hf; rfl
      | cons y ys => obtain ⟨_, _, _, _, u0, _, _, _, _, _, rfl, _⟩ := hf; rfl
    | _ => obtain rfl : f = none := hf; rfl
def fstTy : D → String
  | .tup (y :: _) => tyS y
  | _ => ""
/-- the types of the firsts -/
theorem fsts_ty {M : Model} {ds : List D} {us : List Value} {fs : List (Option Value)} (k : Fsts s.heap ds us fs) (h : ds.all isNe = true) :
    ∃ ts : List String, Paired (fun (v : Value) r => ∀ Q' : Value → Shared → Prop, Q' r s → wpAny M A (typeOf v) Q' E s) (fs.filterMap id) (ts.map Value.type) ∧ ts = ds.map fstTy := by
  induction k with
  | nil => exact ⟨[], .nil, rfl⟩
  | @cons d ds u us f fs r hf _ ih =>
    rw [List.all_cons, Bool.and_eq_true] at h
    obtain ⟨ts, h1, h2⟩ := ih h.2
    cases d with
    | tup xs =>
      cases xs with
      | nil => cases h.1
      | cons y ys =>
        obtain ⟨_, _, _, _, u0, _, _, _, _, _, rfl, r0⟩ := hf
        exact ⟨tyS y :: ts, .cons (fun Q' q => ty_rd r0 q) h1, by rw [h2]; rfl⟩
    | _ => cases h.1
theorem tys_paired {M : Model} : ∀ {ds : List D} {us : List Value}, RdVs s.heap ds us → Paired (fun (v : Value) r => ∀ Q' : Value → Shared → Prop, Q' r s → wpAny M A (typeOf v) Q' E s) us (ds.map fun d => Value.type (tyS d))
  | [], _, r => by obtain rfl := r; exact .nil
  | d :: ds, _, r => by
    obtain ⟨u, us, rfl, r1, r2⟩ := r
    exact .cons (fun Q' q => ty_rd r1 q) (tys_paired r2)
inductive KindOk (xs : List D) : SortKind → Prop where
  | gen : KindOk xs general'
  | one : KindOk xs oneType'
  | tup {b : Bool} : (xs.all isNe = true) → (b = true → ∀ d ∈ xs, fstT d = false) → KindOk xs (tuples' b)
theorem kind_ok {M : Model} {xs : List D} {vs : List Value} (r : RdVs s.heap xs vs) (h2 : 2 ≤ xs.length) : ∃ κ, KindOk xs κ ∧ ∀ Q : SortKind → Shared → Prop, Q κ s → wpAny M A (keyKind' vs.toArray) Q E s := by
  obtain ⟨fs, hf⟩ := fst_ex r
  have go : ∀ {R : SortKind → Shared → Prop}, wpAny M A (if fs.toArray.all (fun x => x.isSome) = true then (do
        rule "list.sort.keys-are-tuples"
        return tuples' ((← oneTypeOnly' (fs.toArray.filterMap id)).any (· != .type "tuple")))
      else (do
        if ((fs.toArray)[0]?.bind id).isSome = true then return general'
        return if (← oneTypeOnly' vs.toArray).isSome then oneType' else general')) R E s → wpAny M A (keyKind' vs.toArray) R E s := fun {R} q => by
    rw [kat_kind_eq, List.mapM_toArray, map_eq_pure_bind]
    refine wpAny_bind (wpAny_bind (wp_mapM vs fs (fsts_paired hf) (wpAny_pure ?_)))
    by_cases hc : fs.toArray.all (fun x => x.isSome) = true
    · rw [if_pos hc] at q ⊢; exact q
    · rw [if_neg hc] at q ⊢; exact q
  by_cases hall : xs.all isNe = true
  · have hc : fs.toArray.all (fun x => x.isSome) = true := by rw [List.all_toArray, fsts_all hf]; exact hall
    obtain ⟨ts, t1, t2⟩ := fsts_ty (M := M) (A := A) (E := E) hf hall
    cases ts with
    | nil =>
      have : xs.map fstTy = [] := t2.symm
      rw [List.map_eq_nil_iff] at this
      rw [this] at h2
      simp at h2
    | cons t0 ts =>
      refine ⟨tuples' ((if (((t0 :: ts).map Value.type).toArray.all fun x => x == Value.type t0) = true then some (Value.type t0) else none).any (· != .type "tuple")), .tup hall fun hb d hd => ?_, fun Q q => go ?_⟩
      · by_cases hs : (((t0 :: ts).map Value.type).toArray.all fun x => x == Value.type t0) = true
        · rw [if_pos hs] at hb
          have h0 : (Value.type t0 != Value.type "tuple") = true := hb
          have hm : fstTy d ∈ t0 :: ts := by rw [t2]; exact List.mem_map.mpr ⟨d, hd, rfl⟩
          rw [List.all_toArray, List.all_eq_true] at hs
          have he := hs _ (List.mem_map.mpr ⟨_, hm, rfl⟩)
          cases d with
          | tup ys =>
            cases ys with
            | nil => rfl
            | cons y ys =>
              cases y with
              | tup zs =>
                have e' : Value.type "tuple" = Value.type t0 := by simpa [fstTy, tyS] using he
                rw [← e'] at h0
                simp at h0
              | _ => rfl
          | _ => rfl
        · rw [if_neg hs] at hb
          cases hb
      · rw [if_pos hc]
        refine wpAny_bind (wpAny_rule ?_)
        rw [oneTypeOnly'_eq, List.filterMap_toArray, List.mapM_toArray, map_eq_pure_bind]
        refine wpAny_bind (wpAny_bind (wpAny_bind (wp_mapM _ _ t1 (wpAny_pure ?_))))
        have e0 : ((t0 :: ts).map Value.type).toArray[0]? = some (Value.type t0) := by simp
        rw [e0]
        exact wpAny_pure (wpAny_pure q)
  · have hc : ¬ fs.toArray.all (fun x => x.isSome) = true := by rw [List.all_toArray, fsts_all hf]; exact hall
    by_cases h0 : ((fs.toArray)[0]?.bind id).isSome = true
    · exact ⟨_, .gen, fun Q q => go (by rw [if_neg hc, if_pos h0]; exact wpAny_pure q)⟩
    · cases xs with
      | nil => simp at h2
      | cons d ds =>
        refine ⟨if (if (((d :: ds).map fun d => Value.type (tyS d)).toArray.all fun x => x == Value.type (tyS d)) = true then some (Value.type (tyS d)) else none).isSome = true then oneType' else general', ?_, fun Q q => go ?_⟩
        · split
          · exact .one
          · exact .gen
        · rw [if_neg hc, if_neg h0, oneTypeOnly'_eq, List.mapM_toArray, map_eq_pure_bind]
          refine wpAny_bind (wpAny_bind (wpAny_bind (wp_mapM _ _ (tys_paired r) (wpAny_pure ?_))))
          have e0 : ((d :: ds).map fun d => Value.type (tyS d)).toArray[0]? = some (Value.type (tyS d)) := by simp
          rw [e0]
          exact wpAny_pure (wpAny_pure q)
end
end DL
/-! The D layer: sorted of data, the rule (end). -/
namespace DL
open PySem PySem.Spec L2 PyProof.Rows PySem.SeqAt PySem.W SrtO
section
variable {prog : Program} {w : World} {A : Around} {E : Value → Shared → Prop} {s : Shared}
theorem one_false {x y : D} {k : Bool} {u v : Value} {Q : Bool → Shared → Prop} (ox : x.okS = true) (oy : y.okS = true) (rx : RdV s.heap x u) (ry : RdV s.heap y v) (h : dlt x y = some k) (hu : A.units + min x.dep y.dep < cLine) (q : Q k s) :
    wpAny (model prog w) A (oneLt' false u v) Q E s := kat_one u v (by
  show wpAny _ _ (richCompare .Lt u v) _ _ _
  exact rc_d x.dep x y k A s u v (Nat.le_refl _) ox oy rx ry h hu prog w E _ q)
theorem one_true {x y : D} {k : Bool} {u v : Value} {Q : Bool → Shared → Prop} (hT : x.isT = false) (rx : RdV s.heap x u) (ry : RdV s.heap y v) (h : dlt x y = some k) (q : Q k s) :
    wpAny (model prog w) A (oneLt' true u v) Q E s := by
  cases x with
  | int i =>
    cases y with
    | int j =>
      obtain ⟨t, rfl⟩ := rx
      obtain ⟨t', rfl⟩ := ry
      cases h
      exact oneLt_int q
    | _ => cases h
  | str i =>
    cases y with
    | str j =>
      obtain ⟨t, rfl⟩ := rx
      obtain ⟨t', rfl⟩ := ry
      cases h
      exact oneLt_str q
    | _ => cases h
  | tup xs => cases hT
  | _ => cases h
theorem one_tup {xs ys : List D} {k : Bool} {u v : Value} {Q : Bool → Shared → Prop} (ox : D.okSs xs = true) (oy : D.okSs ys = true) (rx : RdV s.heap (.tup xs) u) (ry : RdV s.heap (.tup ys) v) (h : dlts xs ys = some k) (hu : A.units + min (D.dep (.tup xs)) (D.dep (.tup ys)) < cLine) (q : Q k s) :
    wpAny (model prog w) A (oneLt' true u v) Q E s := by
  obtain ⟨a, o, vs, n, rfl, h1, h2, h3, h4⟩ := rx
  obtain ⟨a', o', vs', n', rfl, k1, k2, k3, k4⟩ := ry
  have n1 : vs.size = xs.length := by simpa using rdVs_len h4
  have n2 : vs'.size = ys.length := by simpa using rdVs_len k4
  have item : ∀ j, j < xs.length → j < ys.length → ∃ p q, vs.toList[j]? = some p ∧ vs'.toList[j]? = some q ∧ RdV s.heap (xs.getD j .non) p ∧ RdV s.heap (ys.getD j .non) q ∧ (xs.getD j .non).okS = true ∧ (ys.getD j .non).okS = true ∧ (xs.getD j .non).dep ≤ D.deps xs ∧ (ys.getD j .non).dep ≤ D.deps ys := fun j j1 j2 => by
    obtain ⟨p, e1, r1⟩ := rdVs_get h4 (getD_of j1)
    obtain ⟨q, e2, r2⟩ := rdVs_get k4 (getD_of j2)
    exact ⟨p, q, e1, e2, r1, r2, okSs_get ox (getD_of j1), okSs_get oy (getD_of j2), deps_get (getD_of j1), deps_get (getD_of j2)⟩
  have hu2 : A.in1.units + min (D.deps xs) (D.deps ys) < cLine := room_in hu
  rw [oneLt'_eq]
  simp only [if_true]
  refine wpAny_bind (wpAny_cRoomFor (room_here hu) ?_)
  refine wpAny_bind (wpAny_callSpecialIfBound?_slot (T := "tuple") ⟨_, h1, h2⟩ F.slot_tuple_lt (call_tup_lt (e := eAt xs ys) (r := rAt xs ys) ⟨_, h1, h2, _, h3⟩ ⟨_, k1, k2, _, k3⟩ (fun j j1 j2 => ?_) (fun j j1 j2 hpre hj => ?_) ?_))
  · obtain ⟨p, q, e1, e2, r1, r2, o1, o2, d1, d2⟩ := item j (n1 ▸ j1) (n2 ▸ j2)
    rw [get_of j1 e1, get_of j2 e2]
    exact eqAt_d o1 o2 r1 r2 (min_le2 hu2 d1 d2)
  · obtain ⟨p, q, e1, e2, r1, r2, o1, o2, d1, d2⟩ := item j (n1 ▸ j1) (n2 ▸ j2)
    rw [get_of j1 e1, get_of j2 e2]
    exact rc_d _ _ _ _ _ s p q (Nat.le_refl _) o1 o2 r1 r2 (dlts_at xs ys k j h (n1 ▸ j1) (n2 ▸ j2) hpre hj) (min_le2 hu2 d1 d2)
  · rw [n1, n2, dlts_first xs ys k h]
    exact wpAny_truthy_bool q
theorem lex_d {b fin : Bool} {Q : Bool → Shared → Prop} : ∀ (xs ys : List D) (k : Bool) (i : Nat) (vs ws : List Value), D.okSs xs = true → D.okSs ys = true → RdVs s.heap xs vs → RdVs s.heap ys ws → dlts xs ys = some k →
    A.units + min (D.deps xs) (D.deps ys) < cLine → (b = true → i = 0 → ∀ x r, xs = x :: r → x.isT = false) → fin = decide (xs.length < ys.length) → Q k s → KatLex prog w A b fin Q (vs.zip ws) i s
  | [], [], k, i, _, _, _, _, ra, rb, h, _, _, hf, hq => by
    obtain rfl := ra
    obtain rfl := rb
    cases h
    rw [hf]
    exact kat_nil hq
  | [], y :: ys, k, i, _, _, _, _, ra, rb, h, _, _, hf, hq => by
    obtain rfl := ra
    cases h
    rw [List.zip_nil_left, hf]
    exact kat_nil (by simpa using hq)
  | x :: xs, [], k, i, _, _, _, _, ra, rb, h, _, _, hf, hq => by
    obtain rfl := rb
    cases h
    rw [List.zip_nil_right, hf]
    exact kat_nil (by simpa using hq)
  | x :: xs, y :: ys, k, i, _, _, ox, oy, ra, rb, h, hu, hb, hf, hq => by
    obtain ⟨u, us, rfl, r1, r2⟩ := ra
    obtain ⟨v, vs, rfl, k1, k2⟩ := rb
    obtain ⟨o1, o2⟩ := okSs_cons ox
    obtain ⟨o3, o4⟩ := okSs_cons oy
    have hf' : fin = decide (xs.length < ys.length) := by
      rw [hf]
      simp only [List.length_cons, Nat.add_lt_add_iff_right]
    have hu1 : A.units + min x.dep y.dep < cLine := room_head hu
    have hu2 : A.units + min (D.deps xs) (D.deps ys) < cLine := room_tail hu
    unfold dlts at h
    rw [List.zip_cons_cons]
    refine kat_cons (eqAt_d o1 o3 r1 k1 hu1 prog w _ _ ?_)
    by_cases e : x = y
    · rw [if_pos e] at h
      rw [decide_eq_true e]
      exact kat_yes (lex_d xs ys k (i + 1) us vs o2 o4 r2 k2 h hu2 (fun _ hi => absurd hi (Nat.succ_ne_zero i)) hf' hq)
    · rw [if_neg e] at h
      rw [decide_eq_false e]
      refine kat_no ?_
      cases hbi : (b && i == 0) with
      | false => exact one_false o1 o3 r1 k1 h hu1 hq
      | true =>
        have hbi' := Bool.and_eq_true_iff.mp hbi
        exact one_true (hb hbi'.1 (beq_iff_eq.mp hbi'.2) x xs rfl) r1 k1 h hq
theorem cmp_d {xs : List D} {κ : SortKind} (hk : KindOk xs κ) {x y : D} {k : Bool} {u v : Value} {Q : Bool → Shared → Prop} (hx : x ∈ xs) (hy : y ∈ xs) (ox : x.okS = true) (oy : y.okS = true) (rx : RdV s.heap x u) (ry : RdV s.heap y v) (h : dlt x y = some k)
    (hu : A.units + min x.dep y.dep < cLine) (q : Q k s) : wpAny (model prog w) A (keyLt' κ u v) Q E s := by
  cases hk with
  | gen => exact one_false ox oy rx ry h hu q
  | one =>
    rw [keyLt'_oneType]
    cases hT : x.isT with
    | false => exact one_true hT rx ry h q
    | true =>
      cases x with
      | tup xs =>
        cases y with
        | tup ys => exact one_tup ox oy rx ry h hu q
        | _ => cases h
      | _ => cases hT
  | @tup b ha hb =>
    rw [List.all_eq_true] at ha
    have h1 := ha x hx
    have h2 := ha y hy
    cases x with
    | tup xs =>
      cases y with
      | tup ys =>
        obtain ⟨a, o, vs, n, rfl, h1', h2', h3', h4'⟩ := rx
        obtain ⟨a', o', vs', n', rfl, k1, k2, k3, k4⟩ := ry
        refine kat_lt h1' h3' k1 k3 ?_
        have n1 : vs.size = xs.length := by simpa using rdVs_len h4'
        have n2 : vs'.size = ys.length := by simpa using rdVs_len k4
        refine lex_d xs ys k 0 _ _ ox oy h4' k4 h ?_ (fun hbt _ x r e => ?_) (by rw [n1, n2]) q
        · have := room_in hu
          have h5 : A.units + 1 + min (D.deps xs) (D.deps ys) < cLine := this
          omega
        · subst e
          have := hb hbt _ hx
          exact this
      | _ => cases h
    | _ => cases h1
def allCmp (xs : List D) : Bool := xs.all fun x => xs.all fun y => (dlt x y).isSome
theorem rd_mem {h : Heap} : ∀ {ds : List D} {us : List Value}, RdVs h ds us → ∀ u ∈ us, ∃ d, d ∈ ds ∧ RdV h d u
  | [], _, r, u, hu => by obtain rfl := r; cases hu
  | d :: ds, _, r, u, hu => by
    obtain ⟨v, us, rfl, r1, r2⟩ := r
    rcases List.mem_cons.mp hu with rfl | hu
    · exact ⟨d, List.mem_cons_self, r1⟩
    · obtain ⟨e, h1, h2⟩ := rd_mem r2 u hu
      exact ⟨e, List.mem_cons_of_mem _ h1, h2⟩
theorem okSs_mem {ds : List D} {d : D} (o : D.okSs ds = true) (h : d ∈ ds) : d.okS = true := by
  obtain ⟨i, e⟩ := List.getElem?_of_mem h
  exact okSs_get o e
theorem deps_mem {ds : List D} {d : D} (h : d ∈ ds) : d.dep ≤ D.deps ds := by
  obtain ⟨i, e⟩ := List.getElem?_of_mem h
  exact deps_get e
theorem swo_rd (h : Heap) : Swo fun u v => tlt (rdD h u) (rdD h v) := ⟨fun _ _ q => tlt_asym q, fun _ _ _ p q => tlt_neg p q⟩
theorem rds_map {h : Heap} : ∀ {ds : List D} {us : List Value}, RdVs h ds us → us.map (rdD h) = ds
  | [], _, r => by obtain rfl := r; rfl
  | d :: ds, _, r => by
    obtain ⟨v, us, rfl, r1, r2⟩ := r
    rw [List.map_cons, rdD_eq r1, rds_map r2]
theorem sort_data {l : Addr} {xs : List D} {vs : List Value} {Q : Value → Shared → Prop} (hl : s.heap.IsList l vs.toArray) (r : RdVs s.heap xs vs) (hz : vs.length ≤ sizeLine) (ok : D.okSs xs = true) (hc : allCmp xs = true) (hu : A.units + 2 + D.deps xs < cLine)
    (h : ∀ (h' : Heap) (d : Addr) (out : List Value), out.Perm vs → out.map (rdD s.heap) = isort xs → (∀ b o, s.heap.get? b = some o → h'.get? b = some o) → s.heap.objs.size ≤ d → (∃ n, h'.get? d = some (seqObj "list" out.toArray n)) → Q (.ref d) { s with heap := h' }) :
    wpAny (model prog w) A (call (.builtin "sorted") [.ref l]) Q E s := by
  refine sorted_ord (swo_rd s.heap) hl hz (fun h2 h₁ a ha kk => ?_) fun out hs hb => ?_
  · intro h' keep
    have k' : ∀ b o, s.heap.get? b = some o → h'.get? b = some o := fun b o e => keep b o (kk b o e).1 (kk b o e).2
    have r' : RdVs h' xs vs := rds_keep k' xs vs r
    obtain ⟨κ, hk, hkind⟩ := kind_ok (s := { s with heap := h' }) (A := A.in1.in1) (E := fun _ _ => False) (M := model prog w) r' (by rw [← rdVs_len r]; exact h2)
    obtain ⟨κ', hk', hkind'⟩ := kind_ok (s := { s with heap := h' }) (A := A.in1.in1) (E := E) (M := model prog w) r' (by rw [← rdVs_len r]; exact h2)
    refine ⟨κ, fun Q E' q => ?_, fun p q hp hq => ?_⟩
    · exact wpAny_mono (hkind Q q) (fun _ _ z => z) fun _ _ z => z.elim
    · obtain ⟨d, d1, d2⟩ := rd_mem r' p.1 hp
      obtain ⟨e, e1, e2⟩ := rd_mem r' q.1 hq
      obtain ⟨d', d1', d2'⟩ := rd_mem r p.1 hp
      obtain ⟨e', e1', e2'⟩ := rd_mem r q.1 hq
      have ed : d' = d := rd_uniq d' d p.1 (rd_keep k' _ _ d2') d2
      have ee : e' = e := rd_uniq e' e q.1 (rd_keep k' _ _ e2') e2
      subst ed ee
      unfold allCmp at hc
      rw [List.all_eq_true] at hc
      have hc1 := hc d' d1
      rw [List.all_eq_true] at hc1
      obtain ⟨k, hk1⟩ := Option.isSome_iff_exists.mp (hc1 e' e1)
      refine cmp_d (s := { s with heap := h' }) hk d1 e1 (okSs_mem ok d1) (okSs_mem ok e1) d2 e2 hk1 ?_ ⟨rfl, ?_⟩
      · have h1 := deps_mem d1
        have h2 : min d'.dep e'.dep ≤ d'.dep := Nat.min_le_left _ _
        show A.units + 1 + 1 + min d'.dep e'.dep < cLine
        omega
      · show k = tlt (rdD s.heap p.1) (rdD s.heap q.1)
        rw [rdD_eq d2', rdD_eq e2']
        exact (dlt_tlt' hk1).symm
  · refine h _ _ out hb.perm ?_ (fun b o e => sortedAll_old e) (Nat.le_succ _) (sortedAll_at s.heap vs out.toArray)
    refine up_uniq ?_ (isort_up xs) ?_
    · exact List.pairwise_map.mpr hs
    · have := hb.perm.map (rdD s.heap)
      rw [rds_map r] at this
      exact this.trans (isort_perm xs).symm
end

/-! ### at D -/
section
variable {X : Cx} {K : PySem.W.Frag} {w : World} {mg : Str → Option Value} {W : WX}
def opSorted : O1 := fun d m => match d with
  | .ref l => match seqOf m (.ref l) with
    | some xs => if D.okSs xs = true ∧ allCmp xs = true ∧ D.deps xs ≤ 20 then .ok (.ref m.length) (m ++ [.lst (isort xs)]) else .stk
    | none => .stk
  | _ => .stk
def rSrt (K : PySem.W.Frag) : List V → Hp → VK → Prop := fun xs H Q => ∃ (a : Addr) (vs : List V) (ds : List D) (ι : Nat → Addr) (n : Nat), xs = [V.ref a] ∧ SqL K H a vs ∧ Reps K ι n H ds vs ∧ D.okSs ds = true ∧ allCmp ds = true ∧ D.deps ds ≤ 20 ∧
  ∀ p us, H p = none → Reps K ι n H (isort ds) us → Q (.ref p) (upd H p (.lst us))
theorem pick_reps {ι : Nat → Addr} {n : Nat} {H : Hp} {h : Heap} : ∀ {ds : List D} {vs : List V} {us : List Value}, Reps K ι n H ds vs → RdVs h ds us → Vals vs us → ∀ u ∈ us, ∃ v, RelV v u ∧ Rep K ι n H (rdD h u) v
  | [], _, _, _, r, _, u, hu => by obtain rfl := r; cases hu
  | d :: ds, _, _, r, rr, rv, u, hu => by
    obtain ⟨v, vs, rfl, r1, r2⟩ := r
    obtain ⟨x, us, rfl, q1, q2⟩ := rr
    cases rv with
    | cons a b =>
      rcases List.mem_cons.mp hu with rfl | hu
      · exact ⟨v, a, by rw [rdD_eq q1]; exact r1⟩
      · exact pick_reps r2 q2 b u hu
theorem all_reps {ι : Nat → Addr} {n : Nat} {H : Hp} {h : Heap} : ∀ {us : List Value}, (∀ u ∈ us, ∃ v, RelV v u ∧ Rep K ι n H (rdD h u) v) → ∃ vs, Vals vs us ∧ Reps K ι n H (us.map (rdD h)) vs
  | [], _ => ⟨[], .nil, rfl⟩
  | u :: us, hp => by
    obtain ⟨v, h1, h2⟩ := hp u List.mem_cons_self
    obtain ⟨vs, h3, h4⟩ := all_reps fun u hu => hp u (List.mem_cons_of_mem _ hu)
    exact ⟨v :: vs, .cons h1 h3, v, vs, rfl, h2, h4⟩
theorem cr_srt (hu : X.A.units + 64 < cLine) : CallR X (.builtin "sorted") (rSrt X.K) := by
  intro pins s σ H xs us Q I r h
  obtain ⟨a, vs, ds, ι, n, rfl, hs, hr, ok, hc, hd, q⟩ := h
  obtain ⟨its, rv, hl, hz⟩ := I.list hs
  obtain rfl : us = [Value.ref a] := Vals.ref1 r
  have rr := reps_rd I ds vs its ok hr rv
  refine sort_data hl.isList rr (by rw [← rv.length]; exact hz) ok hc (by omega) fun h' d out hp ho hk hsz hn => ?_
  obtain ⟨vs', rv', rs'⟩ := all_reps fun u hu => pick_reps hr rr rv u (hp.mem_iff.mp hu)
  rw [ho] at rs'
  obtain ⟨k, hk'⟩ := hn
  refine ⟨.ref d, upd H d (.lst vs'), I.laid (t' := s.toks) hk hsz ⟨?_, out, k, rv', hk'⟩, rfl, q d vs' (I.hok.fresh hsz) rs'⟩
  rw [rv'.length, hp.length_eq, ← rv.length]
  exact hz
theorem dca_sorted : DCa K w mg W (rSrt K) (fn1 opSorted) := dca1 fun σ ι m H x d Q M rx q => by
  cases d with
  | ref l =>
    cases e1 : seqOf m (.ref l) with
    | none => simp only [opSorted, e1] at q; exact q.elim
    | some xs =>
      by_cases hc : D.okSs xs = true ∧ allCmp xs = true ∧ D.deps xs ≤ 20
      · simp only [opSorted, e1] at q
        rw [if_pos hc] at q
        obtain ⟨a, vs, rfl, h1, h2⟩ := seqOf_sq M e1 rx
        exact ⟨a, vs, xs, ι, m.length, rfl, h1, h2, hc.1, hc.2.1, hc.2.2, fun p us hp r => fin_lst M r q p hp⟩
      · simp only [opSorted, e1] at q
        rw [if_neg hc] at q
        exact q.elim
  | _ => exact q.elim
end
end DL
/-! The D layer: short words for printed derivations. -/
namespace DL
open PySem PySem.Spec L2

theorem bt_len : bootBuiltins "len" = some (.builtin "len") := by decide +kernel
theorem bt_abs : bootBuiltins "abs" = some (.builtin "abs") := by decide +kernel
theorem bt_int : bootBuiltins "int" = some (.type "int") := by decide +kernel
theorem bt_str : bootBuiltins "str" = some (.type "str") := by decide +kernel
theorem bt_list : bootBuiltins "list" = some (.type "list") := by decide +kernel
theorem bt_tuple : bootBuiltins "tuple" = some (.type "tuple") := by decide +kernel
theorem bt_max : bootBuiltins "max" = some (.builtin "max") := by decide +kernel
theorem bt_min : bootBuiltins "min" = some (.builtin "min") := by decide +kernel
theorem bt_sorted : bootBuiltins "sorted" = some (.builtin "sorted") := by decide +kernel
theorem bt_bool : bootBuiltins "bool" = some (.type "bool") := by decide +kernel
theorem bt_dict : bootBuiltins "dict" = some (.type "dict") := by decide +kernel
theorem bt_any : bootBuiltins "any" = some (.builtin "any") := by decide +kernel
theorem bt_all : bootBuiltins "all" = some (.builtin "all") := by decide +kernel
/-- names that are built in and not written -/
structure Bi (mg : Str → Option Value) : Prop where
  len : mg "len" = none
  abs : mg "abs" = none
  int : mg "int" = none
  str : mg "str" = none
  list : mg "list" = none
  tuple : mg "tuple" = none
  max : mg "max" = none
  min : mg "min" = none
  sorted : mg "sorted" = none
  bool : mg "bool" = none
  dict : mg "dict" = none
  range : mg "range" = none
  reversed : mg "reversed" = none
  enumerate : mg "enumerate" = none
  isinstance : mg "isinstance" = none
  any : mg "any" = none
  all : mg "all" = none
structure Ok (X : Cx) (k : Nat) : Prop where
  room : Room k X.A
  calm : X.calm = true
  nd : X.N.Nodup
theorem Ok.u64 {X : Cx} {k : Nat} (o : Ok X k) : X.A.units + 64 < cLine := o.room.units
theorem Ok.u65 {X : Cx} {k : Nat} (o : Ok X k) : X.A.units + 65 < cLine := by have := o.room.un; omega
theorem Ok.u9 {X : Cx} {k : Nat} (o : Ok X k) : X.A.units + 9 < cLine := by have := o.room.un; omega
theorem Ok.blk {X : Cx} {k : Nat} (o : Ok X k) {s : Shared} {H : Hp} {scope : Scope} {e : Env} {fp : List Addr} : Ok (X.blk s H scope e fp) k := ⟨o.room, o.calm, o.nd⟩
theorem Ok.tr {X : Cx} {k : Nat} (o : Ok X k) {pn : List (Addr × Obj)} {xe : Value → Shared → Prop} : Ok (X.tr pn xe) k := ⟨o.room, o.calm, o.nd⟩
/-- a def that is known -/
structure Cal (P : Program) (w : World) (K : PySem.W.Frag) (mg : Str → Option Value) (base : Heap) (k : Nat) (x : Str) (st : Stmt) (ps : List Str) (F : List D → Mem → R D) : Prop where
  ex : ∃ f fd, mg x = some (.ref f) ∧ Fun K x x st f fd ∧ Binds K fd ps [] ∧ FnOk P w K mg base (L2.CX P w) k f fd ps (spD K w mg ps.length F) ∧ ∀ ds m, ds.length ≠ ps.length → F ds m = .stk
section
variable {X : Cx} {K : PySem.W.Frag} {w : World} {mg : Str → Option Value} {W : WX}
variable {k : Nat} {x : Str} {st : Stmt} {ps ks : List Str} {F : List D → Mem → R D} {p pos : Pos} {e a b : Expr} {es : List Expr} {fs : DFs} {f fa fb : DF} {kws : List Keyword}
theorem e_call (C : Cal X.prog X.w X.K X.mg X.base k x st ps F) (hr : Room k X.A) (hx : Pass X W) (ha : DA X W (e :: es) fs) (hg : Gl X x := by rfl) (hdb : (x == ("__debug__" : Str)) = false := by decide)
    (he : starEach (e :: es) X.env = (false, eval e X.env) :: starEach es X.env := by rfl) (hpl : (backTo pos (starEach es X.env)).any (·.1) = false := by rfl) : DE X W (.Call (.Name x p) (e :: es) [] pos) (dApp F [] fs) := by
  obtain ⟨f, fd, hm, Fu, hb, G, hl⟩ := C.ex
  exact de_call (dds := []) (dvs := []) (ds := []) ⟨G, hl⟩ hr hg hm Fu.kp hb .nil (fun _ _ _ => rfl) hx ha hdb he hpl
theorem e_kw (C : Cal X.prog X.w X.K X.mg X.base k x st ps F) (hr : Room k X.A) (hx : Pass X W) (ix : List Nat) (ks : List Str) (hkw : DK X W kws fs)
    (hb : ∀ (kV doc pm : Value) (an : Option Addr) (cdv ct : Value) (ws : List Value), ws.length = ix.length → bindArgs (PySem.W.fnOf x x (defArgs st) (defBody st) (defScope st) .none kV doc pm an cdv ct) ⟨[], ks.zip ws⟩ = pure (ps.zip (permL ix ws)))
    (hg : Gl X x := by rfl) (hdb : (x == ("__debug__" : Str)) = false := by decide) (hall : (backToKw pos (keywordEach kws X.env)).all (·.1.isSome) = true := by rfl) (hks : (backToKw pos (keywordEach kws X.env)).filterMap (·.1) = ks := by rfl)
    (hpl : ((backTo pos (starEach [] X.env)).any (·.1) || (backToKw pos (keywordEach kws X.env)).any (·.1.isNone)) = false := by rfl) : DE X W (.Call (.Name x p) [] kws pos) (dAppK F ix fs) := by
  obtain ⟨f, fd, hm, Fu, _, G, hl⟩ := C.ex
  refine de_callK ⟨G, hl⟩ hr hg hm Fu.kp (ks := ks) (ix := ix) ⟨fun s ws _ hw _ => ?_⟩ hx hkw hdb hall hks hpl
  obtain ⟨oc, od, kV, doc, pm, an, cdv, ct, osl, rfl, lk, hcd⟩ := Fu.ex
  exact .of_eq (hb kV doc pm an cdv ct ws hw)
theorem e_len (B : Bi X.mg) (h : DE X W e f) (hg : Gl X "len" := by rfl) (h0 : starEach [e] X.env = (false, eval e X.env) :: starEach [] X.env := by rfl) (hp : (backTo pos (starEach [] X.env)).any (·.1) = false := by rfl) : DE X W (.Call (.Name "len" p) [e] [] pos) (dCall (fn1 opLen) (dCons f dNil)) := de_callB call_len dca_len hg B.len bt_len (da_cons h da_nil h0) (by decide) (by decide) h0 hp
theorem e_abs (B : Bi X.mg) (h : DE X W e f) (hg : Gl X "abs" := by rfl) (h0 : starEach [e] X.env = (false, eval e X.env) :: starEach [] X.env := by rfl) (hp : (backTo pos (starEach [] X.env)).any (·.1) = false := by rfl) : DE X W (.Call (.Name "abs" p) [e] [] pos) (dCall (fn1 opAbs) (dCons f dNil)) := de_callB call_abs dca_abs hg B.abs bt_abs (da_cons h da_nil h0) (by decide) (by decide) h0 hp
theorem e_max (o : Ok X k) (B : Bi X.mg) (h : DE X W e f) (hg : Gl X "max" := by rfl) (h0 : starEach [e] X.env = (false, eval e X.env) :: starEach [] X.env := by rfl) (hp : (backTo pos (starEach [] X.env)).any (·.1) = false := by rfl) : DE X W (.Call (.Name "max" p) [e] [] pos) (dCall (fn1 opMax) (dCons f dNil)) := de_callB (cr_max o.calm) dca_max hg B.max bt_max (da_cons h da_nil h0) (by decide) (by decide) h0 hp
theorem e_min (o : Ok X k) (B : Bi X.mg) (h : DE X W e f) (hg : Gl X "min" := by rfl) (h0 : starEach [e] X.env = (false, eval e X.env) :: starEach [] X.env := by rfl) (hp : (backTo pos (starEach [] X.env)).any (·.1) = false := by rfl) : DE X W (.Call (.Name "min" p) [e] [] pos) (dCall (fn1 opMin) (dCons f dNil)) := de_callB (cr_min o.calm) dca_min hg B.min bt_min (da_cons h da_nil h0) (by decide) (by decide) h0 hp
theorem e_sorted (o : Ok X k) (B : Bi X.mg) (h : DE X W e f) (hg : Gl X "sorted" := by rfl) (h0 : starEach [e] X.env = (false, eval e X.env) :: starEach [] X.env := by rfl) (hp : (backTo pos (starEach [] X.env)).any (·.1) = false := by rfl) : DE X W (.Call (.Name "sorted" p) [e] [] pos) (dCall (fn1 opSorted) (dCons f dNil)) := de_callB (cr_srt o.u64) dca_sorted hg B.sorted bt_sorted (da_cons h da_nil h0) (by decide) (by decide) h0 hp
theorem e_intOf (B : Bi X.mg) (h : DE X W e f) (hg : Gl X "int" := by rfl) (h0 : starEach [e] X.env = (false, eval e X.env) :: starEach [] X.env := by rfl) (hp : (backTo pos (starEach [] X.env)).any (·.1) = false := by rfl) : DE X W (.Call (.Name "int" p) [e] [] pos) (dCall (fn1 opIntOf) (dCons f dNil)) := de_callTy call_int1 dca_int hg B.int bt_int (da_cons h da_nil h0) (by decide) (by decide) h0 hp
theorem e_strOf (B : Bi X.mg) (h : DE X W e f) (hg : Gl X "str" := by rfl) (h0 : starEach [e] X.env = (false, eval e X.env) :: starEach [] X.env := by rfl) (hp : (backTo pos (starEach [] X.env)).any (·.1) = false := by rfl) : DE X W (.Call (.Name "str" p) [e] [] pos) (dCall (fn1 opStr) (dCons f dNil)) := de_callTy call_str_int dca_str hg B.str bt_str (da_cons h da_nil h0) (by decide) (by decide) h0 hp
theorem e_list (B : Bi X.mg) (h : DE X W e f) (hg : Gl X "list" := by rfl) (h0 : starEach [e] X.env = (false, eval e X.env) :: starEach [] X.env := by rfl) (hp : (backTo pos (starEach [] X.env)).any (·.1) = false := by rfl) : DE X W (.Call (.Name "list" p) [e] [] pos) (dCall (fn1 opList) (dCons f dNil)) := de_callTy call_list_of dca_list hg B.list bt_list (da_cons h da_nil h0) (by decide) (by decide) h0 hp
theorem e_tuple (B : Bi X.mg) (h : DE X W e f) (hg : Gl X "tuple" := by rfl) (h0 : starEach [e] X.env = (false, eval e X.env) :: starEach [] X.env := by rfl) (hp : (backTo pos (starEach [] X.env)).any (·.1) = false := by rfl) : DE X W (.Call (.Name "tuple" p) [e] [] pos) (dCall (fn1 opTuple) (dCons f dNil)) := de_callTy call_tuple_of dca_tuple hg B.tuple bt_tuple (da_cons h da_nil h0) (by decide) (by decide) h0 hp
theorem e_isi (B : Bi X.mg) {T : String} {xT : Str} {p2 : Pos} (hv2 : bootBuiltins xT = some (.type T)) (hm2 : X.mg xT = none) (he : DE X W e f) (hg : Gl X "isinstance" := by rfl) (hg2 : Gl X xT := by rfl) (hn : xT ≠ "__name__" := by decide) (hdb : (xT == ("__debug__" : Str)) = false := by decide)
    (hs1 : starEach [(Expr.Name xT p2)] X.env = (false, eval (.Name xT p2) X.env) :: starEach [] X.env := by rfl) (hs2 : starEach [e, (Expr.Name xT p2)] X.env = (false, eval e X.env) :: starEach [(Expr.Name xT p2)] X.env := by rfl)
    (hpl : (backTo pos (starEach [(Expr.Name xT p2)] X.env)).any (·.1) = false := by rfl) : DE X W (.Call (.Name "isinstance" p) [e, .Name xT p2] [] pos) (dUn (opIsi T) f) := de_isi hg B.isinstance hg2 hm2 hv2 he hn hdb hs1 hs2 hpl
/-! comparisons: values, tests -/
theorem e_eq (o : Ok X k) (ha : DE X W a fa) (hb : DE X W b fb) : DE X W (.Compare a [.Eq] [b] pos) (dBin opEq fa fb) := de_cmp (op_eqD o.u64) dop_eq ha hb (nomark b)
theorem e_ne (o : Ok X k) (ha : DE X W a fa) (hb : DE X W b fb) : DE X W (.Compare a [.NotEq] [b] pos) (dBin opNe fa fb) := de_cmp (op_neD o.u64) dop_ne ha hb (nomark b)
theorem e_lt (ha : DE X W a fa) (hb : DE X W b fb) : DE X W (.Compare a [.Lt] [b] pos) (dBin opLt fa fb) := de_cmp op_ltA dop_lt ha hb (nomark b)
theorem e_le (ha : DE X W a fa) (hb : DE X W b fb) : DE X W (.Compare a [.LtE] [b] pos) (dBin opLe fa fb) := de_cmp op_le (dop_cmpI _) ha hb (nomark b)
theorem e_gt (ha : DE X W a fa) (hb : DE X W b fb) : DE X W (.Compare a [.Gt] [b] pos) (dBin opGt fa fb) := de_cmp op_gt (dop_cmpI _) ha hb (nomark b)
theorem e_ge (ha : DE X W a fa) (hb : DE X W b fb) : DE X W (.Compare a [.GtE] [b] pos) (dBin opGe fa fb) := de_cmp op_ge (dop_cmpI _) ha hb (nomark b)
theorem e_isN (ha : DE X W a fa) (hb : DE X W b fb) : DE X W (.Compare a [.Is] [b] pos) (dBin opIsN fa fb) := de_cmp op_isN dop_isN ha hb (nomark b)
theorem e_notN (ha : DE X W a fa) (hb : DE X W b fb) : DE X W (.Compare a [.IsNot] [b] pos) (dBin opNotN fa fb) := de_cmp op_notN dop_notN ha hb (nomark b)
theorem e_in (o : Ok X k) (ha : DE X W a fa) (hb : DE X W b fb) (hm : behindInMarks .In b = false := by rfl) : DE X W (.Compare a [.In] [b] pos) (dBin opIn fa fb) := de_cmp (op_inAll o.u65) dop_in ha hb hm
theorem e_notIn (o : Ok X k) (ha : DE X W a fa) (hb : DE X W b fb) (hm : behindInMarks .NotIn b = false := by rfl) : DE X W (.Compare a [.NotIn] [b] pos) (dBin opNotIn fa fb) := de_cmp (op_notInAll o.u65) dop_in ha hb hm
theorem t_eq (o : Ok X k) (ha : DE X W a fa) (hb : DE X W b fb) : DT X W (.Compare a [.Eq] [b] pos) (dTest (dBin opEq fa fb)) := dt_cmp (op_eqD o.u64) dop_eq ha hb (nomark b)
theorem t_ne (o : Ok X k) (ha : DE X W a fa) (hb : DE X W b fb) : DT X W (.Compare a [.NotEq] [b] pos) (dTest (dBin opNe fa fb)) := dt_cmp (op_neD o.u64) dop_ne ha hb (nomark b)
theorem t_lt (ha : DE X W a fa) (hb : DE X W b fb) : DT X W (.Compare a [.Lt] [b] pos) (dTest (dBin opLt fa fb)) := dt_cmp op_ltA dop_lt ha hb (nomark b)
theorem t_le (ha : DE X W a fa) (hb : DE X W b fb) : DT X W (.Compare a [.LtE] [b] pos) (dTest (dBin opLe fa fb)) := dt_cmp op_le (dop_cmpI _) ha hb (nomark b)
theorem t_gt (ha : DE X W a fa) (hb : DE X W b fb) : DT X W (.Compare a [.Gt] [b] pos) (dTest (dBin opGt fa fb)) := dt_cmp op_gt (dop_cmpI _) ha hb (nomark b)
theorem t_ge (ha : DE X W a fa) (hb : DE X W b fb) : DT X W (.Compare a [.GtE] [b] pos) (dTest (dBin opGe fa fb)) := dt_cmp op_ge (dop_cmpI _) ha hb (nomark b)
theorem t_isN (ha : DE X W a fa) (hb : DE X W b fb) : DT X W (.Compare a [.Is] [b] pos) (dTest (dBin opIsN fa fb)) := dt_cmp op_isN dop_isN ha hb (nomark b)
theorem t_notN (ha : DE X W a fa) (hb : DE X W b fb) : DT X W (.Compare a [.IsNot] [b] pos) (dTest (dBin opNotN fa fb)) := dt_cmp op_notN dop_notN ha hb (nomark b)
theorem t_in (o : Ok X k) (ha : DE X W a fa) (hb : DE X W b fb) (hm : behindInMarks .In b = false := by rfl) : DT X W (.Compare a [.In] [b] pos) (dTest (dBin opIn fa fb)) := dt_cmp (op_inAll o.u65) dop_in ha hb hm
theorem t_notIn (o : Ok X k) (ha : DE X W a fa) (hb : DE X W b fb) (hm : behindInMarks .NotIn b = false := by rfl) : DT X W (.Compare a [.NotIn] [b] pos) (dTest (dBin opNotIn fa fb)) := dt_cmp (op_notInAll o.u65) dop_in ha hb hm
/-! subscripts, methods -/
theorem e_ix (o : Ok X k) (ha : DE X W a fa) (hb : DE X W b fb) (hs : PlainIx b := by exact fun _ _ => rfl) : DE X W (.Subscript a b pos) (dBin opIxM fa fb) := de_ixM o.u9 ha hb hs
section
variable {apos : Pos} {r : Expr} {fr : DF}
theorem e_append (hr : DE X W r fr) (ha : DE X W a fa) (hbase : attributeBase r "append" X.env (eval r X.env) = eval r X.env := by rfl)
    (hfew : ((backTo pos (starEach [a] X.env)).all (fun x => !x.1) && (backToKw pos (keywordEach [] X.env)).all (fun x => x.1.isSome) && decide (([a] : List Expr).length + ([] : List Keyword).length + (if ([] : List Keyword).isEmpty then 0 else 1) < 30)) = true := by rfl)
    (hline : (apos.endLine == pos.line) = true := by rfl) (hs : starEach [a] X.env = (false, eval a X.env) :: starEach [] X.env := by rfl) (hplain : (backTo pos (starEach [] X.env)).any (·.1) = false := by rfl) :
    DE X W (.Call (.Attribute r "append" apos) [a] [] pos) (dMt isLst mAppend fr (dCons fa dNil)) := de_bm PySem.F.plainAttrs_list PySem.F.slot_list_append PySem.F.type_list_append mt_append ty_lst dmt_append hr (da_cons ha da_nil hs) hbase hfew hline hs hplain
theorem e_extend (hr : DE X W r fr) (ha : DE X W a fa) (hbase : attributeBase r "extend" X.env (eval r X.env) = eval r X.env := by rfl)
    (hfew : ((backTo pos (starEach [a] X.env)).all (fun x => !x.1) && (backToKw pos (keywordEach [] X.env)).all (fun x => x.1.isSome) && decide (([a] : List Expr).length + ([] : List Keyword).length + (if ([] : List Keyword).isEmpty then 0 else 1) < 30)) = true := by rfl)
    (hline : (apos.endLine == pos.line) = true := by rfl) (hs : starEach [a] X.env = (false, eval a X.env) :: starEach [] X.env := by rfl) (hplain : (backTo pos (starEach [] X.env)).any (·.1) = false := by rfl) :
    DE X W (.Call (.Attribute r "extend" apos) [a] [] pos) (dMt isLst mExtend fr (dCons fa dNil)) := de_bm PySem.F.plainAttrs_list PySem.F.slot_list_extend PySem.F.type_list_extend mt_extend ty_lst dmt_extend hr (da_cons ha da_nil hs) hbase hfew hline hs hplain
theorem e_pop (hr : DE X W r fr) (hbase : attributeBase r "pop" X.env (eval r X.env) = eval r X.env := by rfl) (hline : (apos.endLine == pos.line) = true := by rfl) :
    DE X W (.Call (.Attribute r "pop" apos) [] [] pos) (dMt0 isLst mPop fr) := de_bm0 PySem.F.plainAttrs_list PySem.F.slot_list_pop PySem.F.type_list_pop mt_pop ty_lst dmt_pop hr hbase hline
end
/-! a target of several names: a tuple's or a list's items -/
def γTL (n : Nat) (δ : γs) : D → En → Mem → R En := fun d ρ m => match d with
  | .tup ds => γTup n δ (.tup ds) ρ m
  | d => γLst n δ d ρ m
def gTL (K : PySem.W.Frag) (n : Nat) (t : TGs) : TG := fun v σ H Q => gTup K n t v σ H Q ∨ gLst K n t v σ H Q
theorem pg_TL {es : List Expr} {kk : Nat} {t : TGs} {n : Nat} (hc : X.calm = true) (h : PGs X es t)
    (hn : (assignEach es X.env).length = n := by rfl) (hst : (assignEach es X.env).findIdx? (·.1) = none := by rfl) : PG X (.Tuple es kk pos) (gTL X.K n t) :=
  ⟨fun pins s σ H v u Q I r hw => hw.elim (fun q => (pg_tup (n := n) hc h hn hst).run pins s σ H v u Q I r q) fun q => (pg_lst (n := n) hc h hn hst).run pins s σ H v u Q I r q⟩
theorem gok_TL {gs : TGs} {δ : γs} {sl : List Nat} (n : Nat) (hs : GsOk K w mg W gs δ sl) : GOk K w mg W (gTL K n gs) (γTL n δ) sl := fun σ ι ρ m H d v Q e M r q => by
  cases d with
  | tup ds => exact .inl (gok_tup n hs σ ι ρ m H (.tup ds) v Q e M r q)
  | _ => exact .inr (gok_lst n hs σ ι ρ m H _ v Q e M r q)
/-- a, b, c = x, y, z -/
def dPar3 (i j l : Nat) (fs : DFs) : DSt := fun ρ m => (fs ρ m).goes ρ fun ds m1 => match ds with
  | [d, e, f] => .nx (((ρ.set i (some d)).set j (some e)).set l (some f)) m1
  | _ => .stk
theorem ds_par3 {i j l : Nat} {x y z : Str} {a b c : Expr} {fs : DFs} {px py pz pt : Pos} {kt k2 pt2} (hc : X.calm = true) (hN : X.N.Nodup) (hi : X.N[i]? = some x) (hj : X.N[j]? = some y) (hl : X.N[l]? = some z) (hij : i ≠ j) (hil : i ≠ l) (hjl : j ≠ l)
    (hx : X.env.scope.names.lookup x = some .local) (hy : X.env.scope.names.lookup y = some .local) (hz : X.env.scope.names.lookup z = some .local) (ha : DA X W [a, b, c] fs)
    (hw : swappedStores [.Tuple [.Name x px, .Name y py, .Name z pz] kt pt] (.Tuple [a, b, c] k2 pt2) X.env = pure (some [x, y, z]) := by rfl)
    (hs : swapsWithSole [.Tuple [.Name x px, .Name y py, .Name z pz] kt pt] (.Tuple [a, b, c] k2 pt2) pos.line X.env = pure false := by rfl) :
    DS X W (.Assign [.Tuple [.Name x px, .Name y py, .Name z pz] kt pt] (.Tuple [a, b, c] k2 pt2) pos) (dPar3 i j l fs) := ps_imp (ps_par3 hc hN hi hj hl hij hil hjl hx hy hz ha hw hs) fun E σ H h => by
  obtain ⟨ι, ρ, m, e, M, q⟩ := h
  refine ⟨ι, ρ, m, e, M, fin_goes' e q fun ι1 m1 H1 ds S1 M1 e1 q1 vs rv => ?_⟩
  match ds, rv, q1 with
  | [], _, q1 => exact q1.elim
  | [_], _, q1 => exact q1.elim
  | [_, _], _, q1 => exact q1.elim
  | _ :: _ :: _ :: _ :: _, _, q1 => exact q1.elim
  | [d, e, f], rv, q1 =>
    obtain ⟨v, r1, rfl, h1, v2, r2, rfl, h2, v3, r3, rfl, h3, h4⟩ := rv
    obtain rfl : r3 = [] := h4
    exact ⟨v, v2, v3, rfl, finS_nx q1 M1 (((e1.set h1 i).set h2 j).set h3 l)⟩
end
end DL
/-! The D layer: own exception classes, packed. -/
namespace DL
open PySem PySem.Spec L2 PyProof.Rows
def clsS (st : Stmt) (j : Nat) : Stmt := match st with
  | .ClassDef _ _ _ b _ _ _ _ _ _ _ => b.getD j (.Pass ⟨0, 0, 0, 0⟩)
  | _ => .Pass ⟨0, 0, 0, 0⟩
structure Exc1 (P : Program) (w : World) (K : PySem.W.Frag) (mg : Str → Option Value) (base : Heap) (k : Nat) (c : Str) (fns : List Str) (C fI : Addr) (fd : FuncData) : Prop where
  oex : OexC K C
  ini : PySem.W.findIn K (.ref C) "__init__" = some (some (.ref fI))
  tyI : PySem.W.typeIn K (.ref fI) = some (.type "function")
  fn : FnOk P w K mg base (L2.CX P w) k fI fd ("self" :: fns) (spIn K C fns)
  mgc : mg c = some (.ref C)
  few : fns.length ≤ 900
  xf : XfC K C
  no : ∀ f ∈ fns, PySem.W.findIn K (.ref C) f = some none
  te : PySem.W.exmOne K (.ref C) (.ref C) = some true
  bi : Binds K fd ("self" :: fns) []
section
variable {X : Cx} {k : Nat} {c : Str} {fns : List Str} {C fI : Addr} {fd : FuncData} {W : WX}
theorem Exc1.cls (T : Exc1 X.prog X.w X.K X.mg X.base k c fns C fI fd) : XCls X k c C fI fd fns := ⟨T.oex, T.ini, T.tyI, T.fn, T.mgc, T.few⟩
/-- «except c», c's own instances alone -/
def xm1 (c : Str) : Str → Option Bool := fun c' => if c' = c then some true else none
theorem xm1_ok (T : Exc1 X.prog X.w X.K X.mg X.base k c fns C fI fd) : ∀ c' b C', xm1 c c' = some b → X.mg c' = some (.ref C') → PySem.W.exmOne X.K (.ref C') (.ref C) = some b := fun c' b C' h hm => by
  unfold xm1 at h
  by_cases e : c' = c
  · rw [if_pos e] at h
    cases h
    rw [e, T.mgc] at hm
    cases hm
    exact T.te
  · rw [if_neg e] at h
    cases h
theorem xm1_cls (T : Exc1 X.prog X.w X.K X.mg X.base k c fns C fI fd) {cls : Value} (h : ∃ c' C', xm1 c c' = some true ∧ X.mg c' = some (.ref C') ∧ cls = .ref C') : cls = .ref C := by
  obtain ⟨c', C', h1, h2, h3⟩ := h
  unfold xm1 at h1
  by_cases e : c' = c
  · rw [e, T.mgc] at h2
    cases h2
    exact h3
  · rw [if_neg e] at h1
    cases h1
theorem e_raise {e : Expr} {es : List Expr} {fs : DFs} {p pos pos2 : Pos} {n : Nat} (T : Exc1 X.prog X.w X.K X.mg X.base k c fns C fI fd) (o : Ok X n) (tk : Takes X W) (hr : Room (k + 1) X.A) (ha : DA X W (e :: es) fs) (hg : Gl X c := by rfl)
    (hdb : (c == ("__debug__" : Str)) = false := by decide) (he : starEach (e :: es) X.env = (false, eval e X.env) :: starEach es X.env := by rfl) (hpl : (backTo pos (starEach es X.env)).any (·.1) = false := by rfl) :
    DS X W (.Raise (some (.Call (.Name c p) (e :: es) [] pos)) none pos2) (dRaise c fns fs) := ds_raise T.cls o.calm tk hr hg T.bi (L2.passes_call takes0 fun _ _ _ _ z => z) ha hdb he hpl
end
/-- a class's facts, as they are read off -/
theorem exc1_mk {P : Program} {w : World} {K : PySem.W.Frag} {mg : Str → Option Value} {base : Heap} {c : Str} {fns : List Str} {C fI : Addr} {qual : Str} {st : Stmt} {N : List Str}
    {nm q : Str} {NN : Addr} {bs bm : List Value} {sn : List Str} {sub : List Value} {ab : Bool} {col : Option Bool} {dd : Option Addr} {m0 m1 m2 m3 m5 : Option Value} {fd : FuncData}
    (mgc : mg c = some (.ref C)) (xL : K.lookup C = some (excClassObj nm q C NN bs bm true sn sub ab col dd m0 m1 m2 m3 m5 "ValueError.__new__")) (hbm : PySem.HandSPX.refsVE bm = true)
    (sa : PySem.W.findIn K (.ref C) "__setattr__" = some (some (.builtin "object.__setattr__"))) (ga : PySem.W.findIn K (.ref C) "__getattribute__" = some (some (.builtin "BaseException.__getattribute__"))) (gg : PySem.W.findIn K (.ref C) "__getattr__" = some none)
    (no : ∀ f ∈ fns, PySem.W.findIn K (.ref C) f = some none) (ini : PySem.W.findIn K (.ref C) "__init__" = some (some (.ref fI))) (tyI : PySem.W.typeIn K (.ref fI) = some (.type "function"))
    (kC : PySem.W.keepIn K (.ref C) = true) (eC : PySem.W.subIn K (.ref C) (.type "BaseException") = some true) (tC : PySem.W.typeIn K (.ref C) = some (.type "type")) (hC : PySem.W.hasDictIn K C = true) (te : PySem.W.exmOne K (.ref C) (.ref C) = some true)
    (Fu : Fun K "__init__" qual st fI fd) (S : FnScope N ("self" :: fns) (defScope st)) (bi : Binds K fd ("self" :: fns) []) (hn : fns ≠ []) (few : fns.length ≤ 900)
    (hb : ∀ (cdv : Value) (A : Around) (outer : List Env) (s : Shared) (H : Hp) (E : XK), PSs (cxOf (L2.CX P w) P w K mg base N qual (defScope st) fI cdv A outer s H E) (defBody st) (gIn K (slotsIn fns))) :
    Exc1 P w K mg base 1 c fns C fI fd :=
  have T : OexC K C := ⟨⟨nm, q, NN, bs, bm, sn, sub, ab, col, dd, m0, m1, m2, m3, m5, xL, hbm⟩, sa, eC, tC, kC⟩
  ⟨T, ini, tyI, init_fn Fu S T hn no few hb, mgc, few, ⟨ga, gg, eC, hC⟩, no, te, bi⟩
def blkB (N : List Str) (sc scope : Scope) (own : List (Str × Nat)) : Bool := decide (scope.kind = .function) && (scope.names.all fun y => decide (scope.names.lookup y.1 = some y.2)) && (own.all fun p => decide (N[p.2]? = some p.1)) &&
  (scope.names.all fun y => !decide (y.2 = .free) || (decide (sc.names.lookup y.1 = some .cell) || decide (sc.names.lookup y.1 = some .free))) &&
  (scope.names.all fun y => !(decide (y.2 = .local) || decide (y.2 = .cell)) || (decide (y.1 ∈ own.map (·.1)) || !decide (y.1 ∈ N)))
theorem blk_ok (N : List Str) (sc : Scope) {scope : Scope} {own : List (Str × Nat)} (h : blkB N sc scope own = true) : BlkOk N sc scope own := by
  unfold blkB at h
  simp only [Bool.and_eq_true, decide_eq_true_eq, List.all_eq_true] at h
  obtain ⟨⟨⟨⟨h1, h2⟩, h3⟩, h4⟩, h5⟩ := h
  refine ⟨h1, h2, h3, fun y hy e => ?_, fun y hy e => ?_⟩
  · have := h4 y hy
    simpa [e] using this
  · have := h5 y hy
    rcases e with e | e <;> simpa [e] using this
/-! ### the law's own start -/
theorem reps_ints {K : PySem.W.Frag} {ι : Nat → Addr} {n : Nat} {H : Hp} : ∀ ns : List Int, Reps K ι n H (ns.map .int) (ns.map V.int)
  | [] => rfl
  | i :: ns => ⟨_, _, rfl, rfl, reps_ints ns⟩
theorem law_start {K : PySem.W.Frag} {w : World} {mg : Str → Option Value} {F : List D → Mem → R D} {a : Addr} {ns : List Int} {H : Hp} {Q : VK} {E : XK} (pure_ : ∀ o : MO, (o = .lst (ns.map .int) ∨ o = .frl (ns.map .int)) → ∃ m', F [.ref 0] [o] = .ok (.bl true) m')
    (hS : SqL K H a (ns.map V.int)) (q : ∀ H', Q (.bl true) H') : spD K w mg 1 F [.ref a] H Q E := by
  have go : ∀ o : MO, (o = .lst (ns.map .int) ∨ o = .frl (ns.map .int)) → ObjR K w (fun _ => a) 1 H a o → spD K w mg 1 F [.ref a] H Q E := fun o ho ob => by
    obtain ⟨m', e⟩ := pure_ o ho
    refine ⟨rfl, fun _ => a, [.ref 0], [o], Reps.cons ⟨Nat.zero_lt_one, rfl⟩ Reps.nil, ⟨fun l x e => ?_, fun l l' x x' e e' _ _ _ => ?_⟩, ?_⟩
    · cases l with
      | zero => simp at e; subst e; exact ob
      | succ l => simp at e
    · cases l with
      | zero =>
        cases l' with
        | zero => rfl
        | succ l => simp at e'
      | succ l => simp at e
    · rw [e]
      exact fun ι' H' _ _ v hv => by rw [show v = .bl true from hv]; exact q H'
  rcases hS with (hS | ⟨ob, hS⟩) | hS
  · exact go _ (.inl rfl) ⟨_, hS, reps_ints ns⟩
  · exact go _ (.inr rfl) ⟨_, reps_ints ns, .inl ⟨ob, hS⟩⟩
  · exact go _ (.inr rfl) ⟨_, reps_ints ns, .inr hS⟩
theorem cal_at {P : Program} {w : World} {K : PySem.W.Frag} {mg : Str → Option Value} {base : Heap} {k : Nat} {x : Str} {st : Stmt} {ps : List Str} {F : List D → Mem → R D} {f : Addr} {fd : FuncData} (c : Cal P w K mg base k x st ps F) (hm : mg x = some (.ref f)) (Fu : Fun K x x st f fd) :
    FnOk P w K mg base (L2.CX P w) k f fd ps (spD K w mg ps.length F) := by
  obtain ⟨g, gd, hm2, Gu, _, G, _⟩ := c.ex
  rw [hm] at hm2
  cases hm2
  obtain ⟨oc, od, kV, doc, pm, an, cdv, ct, osl, e1, lk, _⟩ := Fu.ex
  obtain ⟨oc', od', kV', doc', pm', an', cdv', ct', osl', e2, lk', _⟩ := Gu.ex
  rw [lk] at lk'
  cases lk'
  exact G
end DL
/-! sorted(a set), sorted(a dict). -/
namespace DL
open PySem PySem.Spec L2 PyProof.Rows PySem.SeqAt PySem.W SrtO SN
section
variable {prog : Program} {w : World} {A : Around} {E : Value → Shared → Prop} {s s1 : Shared}
theorem sortable_d {xs : List D} {vs : List Value} {h1 : Heap} {a : Addr} (r : RdVs s.heap xs vs) (ok : D.okSs xs = true) (hc : allCmp xs = true) (hu : A.units + 2 + D.deps xs < cLine) (h2 : 2 ≤ vs.length)
    (kk : ∀ b o, s.heap.get? b = some o → b ≠ a ∧ h1.get? b = some o) : SortableO prog w A.in1.in1 { s1 with heap := h1 } a vs fun u v => tlt (rdD s.heap u) (rdD s.heap v) := by
  intro h' keep
  have k' : ∀ b o, s.heap.get? b = some o → h'.get? b = some o := fun b o e => keep b o (kk b o e).1 (kk b o e).2
  have r' : RdVs h' xs vs := rds_keep k' xs vs r
  have l2 : 2 ≤ xs.length := by rw [← rdVs_len r]; exact h2
  obtain ⟨κ, c1, c2⟩ := kind_ok (s := { s1 with heap := h' }) (A := A.in1.in1) (E := fun _ _ => False) (M := model prog w) r' l2
  refine ⟨κ, fun Q E' q => wpAny_mono (c2 Q q) (fun _ _ z => z) fun _ _ z => z.elim, fun p q hp hq => ?_⟩
  obtain ⟨x, x1, x2⟩ := rd_mem r p.1 hp
  obtain ⟨y, y1, y2⟩ := rd_mem r q.1 hq
  have hxy : (dlt x y).isSome = true := List.all_eq_true.mp (List.all_eq_true.mp hc x x1) y y1
  obtain ⟨k, hk⟩ := Option.isSome_iff_exists.mp hxy
  refine cmp_d (s := { s1 with heap := h' }) c1 x1 y1 (okSs_mem ok x1) (okSs_mem ok y1) (rd_keep k' _ _ x2) (rd_keep k' _ _ y2) hk ?_ ⟨rfl, ?_⟩
  · have a1 := deps_mem x1
    have a2 : min x.dep y.dep ≤ x.dep := Nat.min_le_left _ _
    show A.units + 1 + 1 + min x.dep y.dep < cLine
    omega
  · show k = tlt (rdD s.heap p.1) (rdD s.heap q.1)
    rw [rdD_eq x2, rdD_eq y2]
    exact (dlt_tlt' hk).symm
theorem rdVs_of {h : Heap} : ∀ {vs : List Value}, (∀ v ∈ vs, ∃ d, RdV h d v) → RdVs h (vs.map (rdD h)) vs
  | [], _ => rfl
  | v :: vs, hv => by
    obtain ⟨d, hd⟩ := hv v List.mem_cons_self
    exact ⟨v, vs, rfl, by rw [rdD_eq hd]; exact hd, rdVs_of fun u hu => hv u (List.mem_cons_of_mem _ hu)⟩
theorem isort_eq {xs ys : List D} (h : xs.Perm ys) : isort xs = isort ys := up_uniq (isort_up _) (isort_up _) ((isort_perm xs).trans (h.trans (isort_perm ys).symm))
theorem okSs_all {xs : List D} : D.okSs xs = true ↔ ∀ x ∈ xs, x.okS = true := by
  induction xs with
  | nil => simp [D.okSs]
  | cons x xs ih => simp [D.okSs, ih]
theorem deps_all {xs : List D} {n : Nat} : D.deps xs ≤ n ↔ ∀ x ∈ xs, x.dep ≤ n := by
  induction xs with
  | nil => simp [D.deps]
  | cons x xs ih => simp only [D.deps, List.mem_cons, forall_eq_or_imp, ← ih]; omega
theorem allCmp_sub {xs ys : List D} (h : allCmp xs = true) (hs : ∀ y ∈ ys, y ∈ xs) : allCmp ys = true :=
  List.all_eq_true.mpr fun y hy => List.all_eq_true.mpr fun z hz => List.all_eq_true.mp (List.all_eq_true.mp h y (hs y hy)) z (hs z hz)
/-- sorted of what is collected -/
theorem sorted_by {a : Addr} {vals : List Value} {Q : Value → Shared → Prop} {ds : List D}
    (C : ∀ (Q' : List Value → Shared → Prop) (E' : Value → Shared → Prop), (∀ (s1 : Shared) (vs : List Value), (∀ b o, s.heap.get? b = some o → s1.heap.get? b = some o) → s1.gens = s.gens → s1.os = s.os → vs.Perm vals → Q' vs s1) → wpAny (model prog w) A.in1 (collect (.ref a)) Q' E' s)
    (rd : RdVs s.heap ds vals) (ok : D.okSs ds = true) (hc : allCmp ds = true) (hu : A.units + 2 + D.deps ds < cLine) (few : vals.length ≤ sizeLine)
    (q : ∀ (s1 s' : Shared) (out : List Value) (c : Nat), (∀ b o, s.heap.get? b = some o → s1.heap.get? b = some o) → s1.gens = s.gens → s1.os = s.os → (∀ b o, s1.heap.get? b = some o → s'.heap.get? b = some o) → s'.gens = s1.gens → s'.os = s1.os → s'.heap.get? s1.heap.objs.size = some (seqObj "list" out.toArray c) →
      out.Perm vals → out.map (rdD s.heap) = isort ds → Q (.ref s1.heap.objs.size) s') : wpAny (model prog w) A (call (.builtin "sorted") [.ref a]) Q E s := by
  refine Calls.call_function_entry kind_sorted plain_sorted entry_sorted (args_sorted1 _) ?_
  unfold Builtin.«sorted»
  refine wpAny_bind (m := checkCount "sorted" 1 1 _) (wpAny_pure ?_)
  refine wpAny_bind (C _ _ fun s1 vs k1 g1 o1 pm => ?_)
  have vlen : vs.length ≤ sizeLine := by rw [pm.length_eq]; exact few
  have rds2 : RdVs s.heap (vs.map (rdD s.heap)) vs := rdVs_of fun v hv => by
    obtain ⟨d, _, z⟩ := rd_mem rd v (pm.mem_iff.mp hv)
    exact ⟨d, z⟩
  have pm2 : (vs.map (rdD s.heap)).Perm ds := by
    have := pm.map (rdD s.heap)
    rwa [rds_map rd] at this
  have inn : ∀ y ∈ vs.map (rdD s.heap), y ∈ ds := fun y hy => pm2.mem_iff.mp hy
  have ok2 : D.okSs (vs.map (rdD s.heap)) = true := okSs_all.mpr fun y hy => okSs_all.mp ok y (inn y hy)
  have hc2 := allCmp_sub hc inn
  have dep2 : D.deps (vs.map (rdD s.heap)) ≤ D.deps ds := deps_all.mpr fun y hy => deps_all.mp (Nat.le_refl _) y (inn y hy)
  refine wpAny_bind (wpAny_newList ?_ vlen)
  have here : (s1.heap.push (seqObj "list" vs.toArray 0)).get? s1.heap.objs.size = some (seqObj "list" vs.toArray 0) := Heap.get?_push_size _ rfl
  have kk : ∀ b o, s.heap.get? b = some o → b ≠ s1.heap.objs.size ∧ (s1.heap.push (seqObj "list" vs.toArray 0)).get? b = some o := fun b o e =>
    ⟨Nat.ne_of_lt (Heap.lt_size (k1 b o e)), Heap.get?_push_of_some _ (k1 b o e)⟩
  refine wpAny_bind (wpAny_holding (wpAny_call_entry slot_list_sort ⟨_, here, rfl⟩ entry_list_sort (list_sort_ord (s := { s1 with heap := s1.heap.push (seqObj "list" vs.toArray 0) }) (swo_rd s.heap) here vlen (fun h2 => sortable_d rds2 ok2 hc2 (by omega) h2 kk) fun out hs hb => ⟨_, rfl, ?_⟩) (args_list_sort _)))
  obtain ⟨c, hcell⟩ := sortedHeap_at (vs := vs) (out := out.toArray) here
  refine wpAny_pure ⟨_, rfl, q s1 _ out c k1 g1 o1 (fun b o e => ?_) rfl rfl hcell (hb.perm.trans pm) ?_⟩
  · have lt := Heap.lt_size e
    show (sortedHeap (s1.heap.push (seqObj "list" vs.toArray 0)) s1.heap.objs.size vs out.toArray).get? b = some o
    rw [sortedHeap_old (Nat.ne_of_lt lt) (by rw [size_push']; exact Nat.lt_succ_of_lt lt)]
    exact Heap.get?_push_of_some _ e
  · have p3 := hb.perm.map (rdD s.heap)
    exact up_uniq (List.pairwise_map.mpr hs) (isort_up _) (p3.trans (pm2.trans (isort_perm ds).symm))
theorem collect_raw {a : Addr} {es : Array DictEntry} {ep : Nat} (lo : (a == sysModules) = false) (hh : A.in1.handled = none) (hr : s.heap.DictRaw a es ep) (few : es.size ≤ sizeLine) (Q' : List Value → Shared → Prop) (E' : Value → Shared → Prop)
    (q : ∀ (s1 : Shared) (vs : List Value), (∀ b o, s.heap.get? b = some o → s1.heap.get? b = some o) → s1.gens = s.gens → s1.os = s.os → vs.Perm (es.toList.map (·.key)) → Q' vs s1) : wpAny (model prog w) A.in1 (collect (.ref a)) Q' E' s := by
  refine kdu_collect (KdlSrc.rawDict (es := es) (ep := ep) lo) hh hr few fun h' tk acc hk hacc => ?_
  have e : acc.toList = es.toList.map (·.key) := by
    apply List.ext_getElem?
    intro j
    by_cases hj : j < acc.size
    · obtain ⟨hi, e⟩ := hacc.2 j acc[j] (by simp [hj])
      simp [hj, hi, e]
    · have : ¬ j < es.size := by rw [← hacc.1]; exact hj
      simp [hj, this]
  exact q _ _ hk rfl rfl (by rw [e])
/-! ### at H -/
section
variable {X : Cx}
/-- what is sorted: a set's members, a dict's keys -/
def srcD : MO → Option (List D)
  | .stt ds => some ds
  | .dct kvs => some (kvs.map (·.1))
  | _ => none
theorem vals_refs {L : List (Addr × NestedKey)} : Vals (L.map fun p => V.ref p.1) (L.map fun p => Value.ref p.1) := by
  induction L with
  | nil => exact .nil
  | cons p L ih => exact .cons rfl ih
theorem vals_strs {us : List (Str × Tok)} : Vals (us.map fun p => V.str p.1) (us.map fun p => Value.str p.1 p.2) := by
  induction us with
  | nil => exact .nil
  | cons p us ih => exact .cons ⟨p.2, rfl⟩ ih
theorem reps_strs {K : PySem.W.Frag} {ι : Nat → Addr} {n : Nat} {H : Hp} {us : List (Str × Tok)} : Reps K ι n H (us.map fun p => D.str p.1) (us.map fun p => V.str p.1) := by
  induction us with
  | nil => exact rfl
  | cons p us ih => exact ⟨_, _, rfl, rfl, ih⟩
theorem paired_key {K : PySem.W.Frag} {ι : Nat → Addr} {n : Nat} {H : Hp} {ds : List D} {L : List (Addr × NestedKey)} (h : Paired (fun (d : D) (p : Addr × NestedKey) => (∃ xs, d = .tup xs) ∧ d.nk = some p.2 ∧ p.2.depth ≤ 8 ∧ Rep K ι n H d (.ref p.1)) ds L) :
    Reps K ι n H ds (L.map fun p => V.ref p.1) ∧ ∀ p ∈ L, KeyAt K H p.2 (.ref p.1) ∧ p.2.depth ≤ 8 := by
  induction h with
  | nil => exact ⟨rfl, nofun⟩
  | @cons d p ds L h _ ih =>
    refine ⟨⟨_, _, rfl, h.2.2.2, ih.1⟩, fun q hq => ?_⟩
    rcases List.mem_cons.mp hq with rfl | hq
    · exact ⟨key_rep d _ _ h.2.1 h.2.2.2, h.2.2.1⟩
    · exact ih.2 q hq
theorem vals_of_get : ∀ {vs : List V} {us : List Value}, us.length = vs.length → (∀ (i : Nat) (v : V) (u : Value), vs[i]? = some v → us[i]? = some u → RelV v u) → Vals vs us
  | [], [], _, _ => .nil
  | [], _ :: _, h, _ => by simp at h
  | _ :: _, [], h, _ => by simp at h
  | v :: vs, u :: us, h, g => .cons (g 0 v u rfl rfl) (vals_of_get (by simpa using h) fun i v u a b => g (i + 1) v u (by simpa using a) (by simpa using b))
theorem paired_fst : ∀ {ks : List (Key × V)} {vs : List (Key × Value)} {i : Nat} {q : Key × V} {r : Key × Value}, KV ks vs → ks[i]? = some q → vs[i]? = some r → q.1 = r.1
  | _, _, i, _, _, .nil, h, _ => by simp at h
  | _, _, 0, _, _, .cons h _, a, b => by simp at a b; subst a b; exact h.1
  | _, _, i + 1, _, _, .cons _ t, a, b => paired_fst (i := i) t (by simpa using a) (by simpa using b)
theorem flat_keys {K : PySem.W.Frag} {P : Program} {w : World} {ι : Nat → Addr} {n : Nat} {H : Hp} {kvs : List (D × D)} {ks : List (Key × V)} {vs : List (Key × Value)} {es : Array DictEntry} (pr : Paired (fun (p : D × D) (q : Key × V) => p.1.key = some q.1 ∧ Rep K ι n H p.2 q.2) kvs ks) (rel : KV ks vs) (esz : es.size = vs.length)
    (each : ∀ i (hi : i < es.size) k v, vs[i]? = some (k, v) → (mixKind P w).is k es[i].key = true ∧ es[i].val = v) : Reps K ι n H (kvs.map (·.1)) (ks.map fun q => kV q.1) ∧ Vals (ks.map fun q => kV q.1) (es.toList.map (·.key)) := by
  constructor
  · clear rel each esz
    induction pr with
    | nil => exact rfl
    | @cons p q _ _ h _ ih =>
      refine ⟨_, _, rfl, ?_, ih⟩
      have h1 := h.1
      show Rep K ι n H p.1 (kV q.1)
      cases hp : p.1 <;> rw [hp] at h1 <;> simp only [D.key, Option.some.injEq, reduceCtorEq] at h1 <;> (rw [← h1]; rfl)
  · refine vals_of_get (by rw [List.length_map, List.length_map, Array.length_toList, esz, ← rel.length]) fun i v u hv hu => ?_
    rw [List.getElem?_map] at hv hu
    obtain ⟨q, hq, rfl⟩ := Option.map_eq_some_iff.mp hv
    obtain ⟨e, he, rfl⟩ := Option.map_eq_some_iff.mp hu
    have hi : i < es.size := by
      have := (List.getElem?_eq_some_iff.mp he).1
      simpa using this
    have ee : e = es[i] := by
      rw [Array.getElem?_toList, Array.getElem?_eq_getElem hi] at he
      exact (Option.some.inj he).symm
    have hiv : i < vs.length := by rw [← esz]; exact hi
    obtain ⟨r1, _⟩ := each i hi vs[i].1 vs[i].2 (List.getElem?_eq_getElem hiv)
    have key : q.1 = vs[i].1 := paired_fst rel hq (List.getElem?_eq_getElem hiv)
    rw [ee]
    rw [← key] at r1
    rcases keyIs_shape r1 with ⟨j, t, e1, e2⟩ | ⟨x, t, e1, e2⟩
    · rw [e1, e2]; exact ⟨t, rfl⟩
    · rw [e1, e2]; exact ⟨t, rfl⟩
theorem nest_keys {K : PySem.W.Frag} {ι : Nat → Addr} {n : Nat} {H : Hp} {kvs : List (D × D)} {xs : List (NestedKey × Addr × V)} {ys : List (NestedKey × Addr × Value)} (pr : Paired (fun (p : D × D) (q : NestedKey × Addr × V) => (∃ ds, p.1 = .tup ds) ∧ p.1.nk = some q.1 ∧ q.1.depth ≤ 8 ∧ Rep K ι n H p.1 (.ref q.2.1) ∧ Rep K ι n H p.2 q.2.2) kvs xs)
    (py : Paired (fun (p : NestedKey × Addr × V) (q : NestedKey × Addr × Value) => p.1 = q.1 ∧ p.2.1 = q.2.1 ∧ RelV p.2.2 q.2.2) xs ys) : Reps K ι n H (kvs.map (·.1)) (xs.map fun q => V.ref q.2.1) ∧ Vals (xs.map fun q => V.ref q.2.1) (ys.map fun y => Value.ref y.2.1) := by
  induction pr generalizing ys with
  | nil => cases py; exact ⟨rfl, .nil⟩
  | cons h _ ih =>
    cases py with
    | cons k py =>
      obtain ⟨a, b⟩ := ih py
      exact ⟨⟨_, _, rfl, h.2.2.2.1, a⟩, .cons (congrArg Value.ref k.2.1.symm) b⟩
def rSortA (K : PySem.W.Frag) (w : World) : List V → Hp → VK → Prop := fun vs H Q => ∃ (a : Addr) (ds : List D) (ι : Nat → Addr) (n : Nat) (o : MO), vs = [V.ref a] ∧ ObjR K w ι n H a o ∧ srcD o = some ds ∧ D.okSs ds = true ∧ allCmp ds = true ∧ D.deps ds ≤ 8 ∧
  ∀ p us, H p = none → Reps K ι n H (isort ds) us → Q (.ref p) (upd H p (.lst us))
/-- the end of both -/
theorem sortA_end {pins : List (Addr × Obj)} {σ : L2.St} {H : Hp} {s : Shared} {a : Addr} {ds ds' : List D} {vs : List V} {vals : List Value} {ι : Nat → Addr} {n : Nat} {Q : VK} (I : Inv X pins σ H s) (hu : X.A.units + 64 < cLine)
    (C : ∀ (Q' : List Value → Shared → Prop) (E' : Value → Shared → Prop), (∀ (s1 : Shared) (vs : List Value), (∀ b o, s.heap.get? b = some o → s1.heap.get? b = some o) → s1.gens = s.gens → s1.os = s.os → vs.Perm vals → Q' vs s1) → wpAny (model X.prog X.w) X.A.in1 (collect (.ref a)) Q' E' s)
    (hr : Reps X.K ι n H ds' vs) (rv : Vals vs vals) (pm : ds'.Perm ds) (few : vals.length ≤ sizeLine) (ok : D.okSs ds = true) (hc : allCmp ds = true) (dep : D.deps ds ≤ 8)
    (q : ∀ p us, H p = none → Reps X.K ι n H (isort ds) us → Q (.ref p) (upd H p (.lst us))) : wpAny (model X.prog X.w) X.A (call (.builtin "sorted") [.ref a]) (fun u s' => EP X pins σ Q u s') X.xe s := by
  have ok' : D.okSs ds' = true := okSs_all.mpr fun x hx => okSs_all.mp ok x (pm.mem_iff.mp hx)
  have hc' := allCmp_sub hc fun x hx => pm.mem_iff.mp hx
  have dep' : D.deps ds' ≤ 8 := deps_all.mpr fun x hx => deps_all.mp dep x (pm.mem_iff.mp hx)
  have rr := reps_rd I ds' vs vals ok' hr rv
  refine sorted_by C rr ok' hc' (by omega) few fun s1 s' out c k1 g1 o1 k2 g2 o2 cell hp ho => ?_
  obtain ⟨vs', rv', rs'⟩ := all_reps fun u hu => pick_reps hr rr rv u (hp.mem_iff.mp hu)
  rw [ho, isort_eq pm] at rs'
  have I1 : Inv X pins σ H s1 := I.call' (ch := []) o1 (Un.kept k1) (I.hok.kept k1) (by rw [g1]; exact I.bare) (fun _ z => nomatch z)
  have len : vs'.length ≤ sizeLine := by rw [rv'.length, hp.length_eq]; exact few
  have I2 : Inv X pins σ (upd H s1.heap.objs.size (.lst vs')) s' := I1.call' (ch := []) o2 (Un.laid k2 (Nat.le_refl _) (I1.hok.fresh (Nat.le_refl _))) (I1.hok.laid k2 (Nat.le_refl _) ⟨len, out, c, rv', cell⟩) (by rw [g2]; exact I1.bare) (fun _ z => nomatch z)
  exact ⟨.ref _, _, I2, rfl, q _ vs' (I1.hok.fresh (Nat.le_refl _)) rs'⟩
theorem cr_sortA (hcalm : X.calm = true) (hu : X.A.units + 64 < cLine) : CallR X (.builtin "sorted") (rSortA X.K X.w) := by
  intro pins s σ H vs us Q I r h
  obtain ⟨a, ds, ι, n, o, rfl, ob, hsrc, ok, hc, dep, q⟩ := h
  rw [Vals.ref1 r]
  have hh : X.A.in1.handled = none := I.ok.hd hcalm
  cases o with
  | stt xs =>
    cases hsrc
    obtain ⟨ds', pm, ⟨l, rfl, e⟩ | ⟨L, e, pr, _⟩⟩ := ob
    · have S : SetS X.w s.heap a l := (I.hok a _ e).1
      obtain ⟨o, es, ep, t, us, ho, hex, hd, hr, pl, fits, ris, led⟩ := S.ex
      have sz : es.size = l.length := by
        have e1 := congrArg List.length hr
        have e2 := pl.length_eq
        simp only [Array.length_toList, rowS, List.length_map] at e1 e2
        omega
      have few := S.few
      refine sortA_end (vals := us.map fun p => Value.str p.1 p.2) (ds' := us.map fun p => D.str p.1) I hu (fun Q' E' q' => collect_set (A := X.A.in1) hh ⟨o, ho, hex.1, hd⟩ fits (by rw [sz]; unfold scanBound; omega) ris led fun s1 vs k1 _ g1 o1 p1 => q' s1 vs k1 g1 o1 (by rwa [hr, rowS, List.map_map] at p1)) reps_strs vals_strs ?_ ?_ ok hc dep q
      · have := pl.map D.str
        rw [List.map_map] at this
        exact this.trans pm
      · have e2 := pl.length_eq
        rw [List.length_map] at e2 ⊢
        rw [e2, sizeLine_eq]; omega
    · have S0 : SetN0 X.w s.heap a L := (I.hok a _ e).1
      obtain ⟨rp, kp⟩ := paired_key pr
      obtain ⟨es, ep, t, S⟩ := S0.full fun p hp => ⟨key_is I _ _ _ (kp p hp).1 rfl, (kp p hp).2⟩
      obtain ⟨o, ho, hex, hd⟩ := S.ob
      have sz := S.size
      have few := S.few
      refine sortA_end (vals := L.map fun p => Value.ref p.1) I hu (fun Q' E' q' => collect_set (A := X.A.in1) hh ⟨o, ho, hex.1, hd⟩ S.fits (by unfold scanBound; omega) S.tab.up S.led fun s1 vs k1 _ g1 o1 p1 => q' s1 vs k1 g1 o1 (by rwa [S.rows, rowN, List.map_map] at p1)) rp vals_refs pm (by rw [List.length_map, sizeLine_eq]; omega) ok hc dep q
  | dct kvs =>
    cases hsrc
    rcases ob with ⟨ks, e, pr⟩ | ⟨xs, e, _, pr⟩
    · obtain ⟨z, lo, vs, rel, dd⟩ := dk_of I.hok e
      obtain ⟨es, ep, raw, esz, each⟩ := dd.raw
      obtain ⟨rp, rv⟩ := flat_keys (ι := ι) (n := n) (H := H) pr rel esz each
      exact sortA_end (vals := es.toList.map (·.key)) I hu (fun Q' E' q' => collect_raw lo hh raw (by rw [esz, ← rel.length]; exact z) Q' E' q') rp rv (List.Perm.refl _) (by rw [List.length_map, Array.length_toList, esz, ← rel.length]; exact z) ok hc dep q
    · obtain ⟨lo, z, ys, py, o, es, ep, ho, hex, hd, hr, nd⟩ := (I.hok a _ e).1
      have lys := Paired.length py
      have esz : es.size = ys.length := by
        have := congrArg List.length hr
        simpa using this
      have keys : es.toList.map (·.key) = ys.map fun y => Value.ref y.2.1 := by rw [hr, List.map_map]; rfl
      obtain ⟨rp, rv⟩ := nest_keys pr py
      exact sortA_end (vals := ys.map fun y => Value.ref y.2.1) I hu (fun Q' E' q' => collect_raw lo hh ⟨o, ho, hex, hd⟩ (by rw [esz, ← lys]; exact z) Q' E' (by rw [keys]; exact q')) rp rv (List.Perm.refl _) (by rw [List.length_map, ← lys]; exact z) ok hc dep q
  | _ => cases hsrc
end
end
end DL
/-! set(a list), sorted(..) as denotations. -/
namespace DL
open PySem PySem.Spec L2 PyProof.Rows PySem.SeqAt PySem.W SrtO SN
def nubD : List D → List D
  | [] => []
  | x :: xs => if x ∈ xs then nubD xs else x :: nubD xs
theorem mem_nub {y : D} : ∀ {xs : List D}, y ∈ nubD xs ↔ y ∈ xs
  | [] => Iff.rfl
  | x :: xs => by
    unfold nubD
    by_cases h : x ∈ xs
    · rw [if_pos h, mem_nub, List.mem_cons]
      exact ⟨.inr, fun z => z.elim (fun e => e ▸ h) id⟩
    · rw [if_neg h, List.mem_cons, List.mem_cons, mem_nub]
theorem nodup_nub : ∀ (xs : List D), (nubD xs).Nodup
  | [] => List.nodup_nil
  | x :: xs => by
    unfold nubD
    by_cases h : x ∈ xs
    · rw [if_pos h]; exact nodup_nub xs
    · rw [if_neg h]; exact List.nodup_cons.mpr ⟨fun z => h (mem_nub.mp z), nodup_nub xs⟩
theorem nub_len (xs : List D) : (nubD xs).length ≤ xs.length := by
  induction xs with
  | nil => exact Nat.le_refl _
  | cons x xs ih =>
    unfold nubD
    split
    · exact Nat.le_succ_of_le ih
    · exact Nat.succ_le_succ ih
theorem nub_perm {xs ys : List D} (h1 : ys.Nodup) (h2 : ∀ y, y ∈ ys ↔ y ∈ xs) : ys.Perm (nubD xs) := (List.perm_ext_iff_of_nodup h1 (nodup_nub xs)).mpr fun y => (h2 y).trans mem_nub.symm
def isStrD : D → Bool
  | .str _ => true
  | _ => false
/-- members that a set may have -/
def setK (xs : List D) : Bool := xs.all isStrD || xs.all tupK
section
variable {X : Cx} {K : PySem.W.Frag} {w : World} {mg : Str → Option Value} {W : WX} {ι : Nat → Addr} {n : Nat} {H : Hp}
abbrev KeyR (K : PySem.W.Frag) (ι : Nat → Addr) (n : Nat) (H : Hp) (d : D) (p : Addr × NestedKey) : Prop := (∃ xs, d = .tup xs) ∧ d.nk = some p.2 ∧ p.2.depth ≤ 8 ∧ Rep K ι n H d (.ref p.1)
theorem tups_keys : ∀ {xs : List D} {us : List V}, xs.all tupK = true → Reps K ι n H xs us → ∃ ks : List (Addr × NestedKey), us = ks.map (fun p => V.ref p.1) ∧ Paired (KeyR K ι n H) xs ks
  | [], us, _, r => ⟨[], r, .nil⟩
  | x :: xs, us, h, r => by
    rw [List.all_cons, Bool.and_eq_true] at h
    obtain ⟨v, us, rfl, r1, r2⟩ := r
    obtain ⟨ks, rfl, pr⟩ := tups_keys h.2 r2
    obtain ⟨ys, k, rfl, hk, h8⟩ := tupK_of h.1
    obtain ⟨a, vs, rfl, t1, t2⟩ := id r1
    exact ⟨(a, k) :: ks, rfl, .cons ⟨⟨ys, rfl⟩, hk, h8, r1⟩ pr⟩
theorem strs_texts : ∀ {xs : List D} {us : List V} {its : List Value}, xs.all isStrD = true → Reps K ι n H xs us → Vals us its → ∃ ss : List (Str × Tok), xs = ss.map (fun p => D.str p.1) ∧ its = ss.map fun p => Value.str p.1 p.2
  | [], us, its, _, r, rv => by
    obtain rfl : us = [] := r
    cases rv
    exact ⟨[], rfl, rfl⟩
  | x :: xs, us, its, h, r, rv => by
    rw [List.all_cons, Bool.and_eq_true] at h
    obtain ⟨v, us, rfl, r1, r2⟩ := r
    cases rv with
    | cons a b =>
      obtain ⟨ss, rfl, rfl⟩ := strs_texts h.2 r2 b
      cases x with
      | str y =>
        obtain rfl : v = .str y := r1
        obtain ⟨t, rfl⟩ := a
        exact ⟨(y, t) :: ss, rfl, rfl⟩
      | _ => cases h.1
theorem paired_two {α β : Type} {R : α → β → Prop} : ∀ {xs : List α} {ys : List β}, Paired R xs ys → (∀ x ∈ xs, ∃ y ∈ ys, R x y) ∧ ∀ y ∈ ys, ∃ x ∈ xs, R x y
  | _, _, .nil => ⟨nofun, nofun⟩
  | _, _, .cons h t => by
    obtain ⟨a, b⟩ := paired_two t
    refine ⟨fun x hx => ?_, fun y hy => ?_⟩
    · rcases List.mem_cons.mp hx with rfl | hx
      · exact ⟨_, List.mem_cons_self, h⟩
      · obtain ⟨y, hy, r⟩ := a x hx
        exact ⟨y, List.mem_cons_of_mem _ hy, r⟩
    · rcases List.mem_cons.mp hy with rfl | hy
      · exact ⟨_, List.mem_cons_self, h⟩
      · obtain ⟨x, hx, r⟩ := b y hy
        exact ⟨x, List.mem_cons_of_mem _ hx, r⟩
theorem pick_keys {xs : List D} {ks : List (Addr × NestedKey)} (pr : Paired (KeyR K ι n H) xs ks) : ∀ {L : List (Addr × NestedKey)}, (∀ p ∈ L, p ∈ ks) → ∃ ds, Paired (fun d p => KeyR K ι n H d p ∧ d ∈ xs) ds L
  | [], _ => ⟨[], .nil⟩
  | p :: L, h => by
    obtain ⟨ds, pd⟩ := pick_keys pr fun q hq => h q (List.mem_cons_of_mem _ hq)
    obtain ⟨x, hx, r⟩ := (paired_two pr).2 p (h p List.mem_cons_self)
    exact ⟨x :: ds, .cons ⟨r, hx⟩ pd⟩
theorem keys_nodup {xs ds : List D} {L : List (Addr × NestedKey)} (pd : Paired (fun d p => KeyR K ι n H d p ∧ d ∈ xs) ds L) (nd : (L.map (·.2)).Nodup) : ds.Nodup := by
  induction pd with
  | nil => exact List.nodup_nil
  | @cons d p ds L h t ih =>
    rw [List.map_cons, List.nodup_cons] at nd
    refine List.nodup_cons.mpr ⟨fun hd => nd.1 ?_, ih nd.2⟩
    obtain ⟨q, hq, r⟩ := (paired_two t).1 d hd
    have e : some p.2 = some q.2 := h.1.2.1.symm.trans r.1.2.1
    exact List.mem_map.mpr ⟨q, hq, (Option.some.inj e).symm⟩
theorem refsN : ∀ {ks : List (Addr × NestedKey)} {us : List Value}, Vals (ks.map fun p => V.ref p.1) us → us = ks.map fun p => Value.ref p.1
  | [], _, .nil => rfl
  | p :: ks, _, .cons r t => by
    cases r
    rw [refsN t]; rfl
def rSetD (K : PySem.W.Frag) (w : World) : List V → Hp → VK → Prop := fun vs H Q => ∃ (a : Addr) (us : List V) (xs : List D) (ι : Nat → Addr) (n : Nat), vs = [V.ref a] ∧ SqL K H a us ∧ Reps K ι n H xs us ∧ setK xs = true ∧ xs.length < 299 ∧
  ∀ p ho, H p = none → (∀ ι' n', (∀ d v, Rep K ι n H d v → Rep K ι' n' (upd H p ho) d v) → ObjR K w ι' n' (upd H p ho) p (.stt (nubD xs))) → Q (.ref p) (upd H p ho)
theorem cr_setD (hc : X.calm = true) (hu : X.A.units + 64 < cLine) : CallR X (.type "set") (rSetD X.K X.w) := by
  intro pins s σ H vs us0 Q I r h
  obtain ⟨a, us, xs, ι, n, rfl, hl, hr, hk, few, q⟩ := h
  rw [Vals.ref1 r]
  obtain ⟨its, rv, pl, hz⟩ := I.list hl
  have hn : H s.heap.objs.size = none := I.hok.fresh (Nat.le_refl _)
  unfold setK at hk
  rw [Bool.or_eq_true] at hk
  by_cases hst : xs.all isStrD = true
  · replace hk := hst
    obtain ⟨ss, rfl, rfl⟩ := strs_texts hk hr rv
    refine set_texts (P := X.prog) (w := X.w) ss (I.ok.hd hc) pl.isList (by simp) (by rw [List.length_map] at few; omega) (by omega) fun h' tk l S g k => ?_
    refine ⟨.ref s.heap.objs.size, upd H s.heap.objs.size (SetSO X.w s.heap.objs.size l), I.laid (t' := tk) k (Nat.le_refl _) (setSO_ok S), rfl, q _ _ hn fun ι' n' tr => ⟨l.map D.str, nub_perm ?_ fun y => ?_, .inl ⟨l, rfl, upd_same⟩⟩⟩
    · exact S.nd.map D.str fun x y hne e => hne (D.str.inj e)
    · constructor
      · intro hy
        obtain ⟨x, hx, rfl⟩ := List.mem_map.mp hy
        obtain ⟨p, hp, rfl⟩ := (g x).mp hx
        exact List.mem_map.mpr ⟨p, hp, rfl⟩
      · intro hy
        obtain ⟨p, hp, rfl⟩ := List.mem_map.mp hy
        exact List.mem_map.mpr ⟨p.1, (g p.1).mpr ⟨p, hp, rfl⟩, rfl⟩
  · replace hk := hk.resolve_left hst
    obtain ⟨ks, rfl, pr⟩ := tups_keys hk hr
    have hkk : ∀ p ∈ ks, IsN s.heap p.2 p.1 := fun p hp => by
      obtain ⟨x, _, c⟩ := (paired_two pr).2 p hp
      exact ⟨key_is I _ _ _ (key_rep x _ _ c.2.1 c.2.2.2) rfl, c.2.2.1⟩
    refine set_of (P := X.prog) (w := X.w) ks (I.ok.hd hc) pl.isList (by simpa using refsN rv) hkk (by rw [Paired.length pr] at few; exact few) (by omega) fun h' tk L es ep t S g k => ?_
    refine ⟨.ref s.heap.objs.size, upd H s.heap.objs.size (SetNO X.w s.heap.objs.size L), I.laid (t' := tk) k (Nat.le_refl _) (setNO_ok S.bare), rfl, q _ _ hn fun ι' n' tr => ?_⟩
    obtain ⟨ds, pd⟩ := pick_keys pr fun p hp => List.mem_of_mem_take (g.from_ p hp)
    refine ⟨ds, nub_perm (keys_nodup pd S.nd) fun y => ?_, .inr ⟨L, upd_same, Paired.mp (fun d p z => ⟨z.1.1, z.1.2.1, z.1.2.2.1, tr _ _ z.1.2.2.2⟩) pd, ?_⟩⟩
    rotate_left
    · rintro rfl
      cases pd
      cases pr with
      | nil => exact hst rfl
      | @cons d p _ _ c _ =>
        have := g.each p (by rw [List.take_length]; exact List.mem_cons_self)
        cases this
    constructor
    · intro hy
      obtain ⟨p, _, z⟩ := (paired_two pd).1 y hy
      exact z.2
    · intro hy
      obtain ⟨p, hp, c⟩ := (paired_two pr).1 y hy
      obtain ⟨p', hp', e⟩ := List.mem_map.mp (g.each p (by rw [List.take_length]; exact hp))
      obtain ⟨y', hy', c'⟩ := (paired_two pd).2 p' hp'
      have : y' = y := nk_inj y' y p.2 (by rw [c'.1.2.1, e]) c.2.1
      rw [← this]; exact hy'
end
end DL
/-! set(..), sorted(..), xs.pop(i): the rules. -/
namespace DL
open PySem PySem.Spec L2 PyProof.Rows
section
variable {X : Cx} {K : PySem.W.Frag} {w : World} {mg : Str → Option Value} {W : WX}
def opSetOf : O1 := fun d m => match d with
  | .ref l => match seqOf m (.ref l) with
    | some xs => if setK xs = true ∧ xs.length < 299 then .ok (.ref m.length) (m ++ [.stt (nubD xs)]) else .stk
    | none => .stk
  | _ => .stk
theorem dca_set : DCa K w mg W (rSetD K w) (fn1 opSetOf) := dca1 fun σ ι m H x d Q M rx q => by
  cases d with
  | ref l =>
    cases e1 : seqOf m (.ref l) with
    | none => simp only [opSetOf, e1] at q; exact q.elim
    | some xs =>
      by_cases hc : setK xs = true ∧ xs.length < 299
      · simp only [opSetOf, e1] at q
        rw [if_pos hc] at q
        obtain ⟨a, vs, rfl, h1, h2⟩ := seqOf_sq M e1 rx
        refine ⟨a, vs, xs, ι, m.length, rfl, h1, h2, hc.1, hc.2, fun p ho hp ob => ?_⟩
        have hl : (m ++ [MO.stt (nubD xs)]).length = m.length + 1 := by simp
        have S : Step ι m.length H (more ι m.length p) (m ++ [MO.stt (nubD xs)]).length (upd H p ho) := by rw [hl]; exact Step.new hp
        exact q _ _ S (M.new hp (ob _ _ fun d v r => r.step (Step.new hp))) _ ⟨by rw [hl]; exact Nat.lt_succ_self _, by rw [more_new]⟩
      · simp only [opSetOf, e1] at q
        rw [if_neg hc] at q
        exact q.elim
  | _ => exact q.elim
/-- sorted: a list, a set, a dict -/
def opSortedA : O1 := fun d m => match d with
  | .ref l => match m[l]? with
    | some (.stt ds) => if D.okSs ds = true ∧ allCmp ds = true ∧ D.deps ds ≤ 8 then .ok (.ref m.length) (m ++ [.lst (isort ds)]) else .stk
    | some (.dct kvs) => if D.okSs (kvs.map (·.1)) = true ∧ allCmp (kvs.map (·.1)) = true ∧ D.deps (kvs.map (·.1)) ≤ 8 then .ok (.ref m.length) (m ++ [.lst (isort (kvs.map (·.1)))]) else .stk
    | _ => opSorted (.ref l) m
  | _ => .stk
theorem cr_or {id : String} {r r' : List V → Hp → VK → Prop} (h : CallR X (.builtin id) r) (h' : CallR X (.builtin id) r') : CallR X (.builtin id) fun vs H Q => r vs H Q ∨ r' vs H Q := by
  intro pins s σ H vs us Q I rv hq
  exact hq.elim (h pins s σ H vs us Q I rv) (h' pins s σ H vs us Q I rv)
theorem dca_sortedA : DCa K w mg W (fun vs H Q => rSrt K vs H Q ∨ rSortA K w vs H Q) (fn1 opSortedA) := dca1 fun σ ι m H x d Q M rx q => by
  cases d with
  | ref l =>
    obtain ⟨_, rfl⟩ := id rx
    have old : fin K w mg W σ ι m.length H (pV K Q) (opSorted (.ref l) m) → rSrt K [V.ref (ι l)] H Q := fun z => dca_sorted (K := K) (w := w) (mg := mg) (W := W) σ ι m H [V.ref (ι l)] [.ref l] Q M ⟨_, _, rfl, rx, rfl⟩ z
    cases e : m[l]? with
    | none => simp only [opSortedA, e] at q; exact .inl (old q)
    | some o =>
      cases o with
      | lst ys => simp only [opSortedA, e] at q; exact .inl (old q)
      | frl ys => simp only [opSortedA, e] at q; exact .inl (old q)
      | stt ds =>
        simp only [opSortedA, e] at q
        by_cases hc : D.okSs ds = true ∧ allCmp ds = true ∧ D.deps ds ≤ 8
        · rw [if_pos hc] at q
          exact .inr ⟨ι l, ds, ι, m.length, _, rfl, M.obj l _ e, rfl, hc.1, hc.2.1, hc.2.2, fun p us hp r => fin_lst M r q p hp⟩
        · rw [if_neg hc] at q; exact q.elim
      | dct kvs =>
        simp only [opSortedA, e] at q
        by_cases hc : D.okSs (kvs.map (·.1)) = true ∧ allCmp (kvs.map (·.1)) = true ∧ D.deps (kvs.map (·.1)) ≤ 8
        · rw [if_pos hc] at q
          exact .inr ⟨ι l, _, ι, m.length, _, rfl, M.obj l _ e, rfl, hc.1, hc.2.1, hc.2.2, fun p us hp r => fin_lst M r q p hp⟩
        · rw [if_neg hc] at q; exact q.elim
  | _ => exact q.elim
end
section
variable {X : Cx} {W : WX} {k : Nat} {e r a : Expr} {f fr fa : DF} {p pos apos : Pos}
theorem bt_set : bootBuiltins "set" = some (.type "set") := by decide +kernel
theorem e_set (o : Ok X k) (hm : X.mg "set" = none) (h : DE X W e f) (hg : Gl X "set" := by rfl) (h0 : starEach [e] X.env = (false, eval e X.env) :: starEach [] X.env := by rfl) (hp : (backTo pos (starEach [] X.env)).any (·.1) = false := by rfl) :
    DE X W (.Call (.Name "set" p) [e] [] pos) (dCall (fn1 opSetOf) (dCons f dNil)) := de_callTy (cr_setD o.calm o.u64) dca_set hg hm bt_set (da_cons h da_nil h0) (by decide) (by decide) h0 hp
theorem e_sortedA (o : Ok X k) (B : Bi X.mg) (h : DE X W e f) (hg : Gl X "sorted" := by rfl) (h0 : starEach [e] X.env = (false, eval e X.env) :: starEach [] X.env := by rfl) (hp : (backTo pos (starEach [] X.env)).any (·.1) = false := by rfl) :
    DE X W (.Call (.Name "sorted" p) [e] [] pos) (dCall (fn1 opSortedA) (dCons f dNil)) := de_callB (cr_or (cr_srt o.u64) (cr_sortA o.calm o.u64)) dca_sortedA hg B.sorted bt_sorted (da_cons h da_nil h0) (by decide) (by decide) h0 hp
theorem e_popAt (hr : DE X W r fr) (ha : DE X W a fa) (hbase : attributeBase r "pop" X.env (eval r X.env) = eval r X.env := by rfl)
    (hfew : ((backTo pos (starEach [a] X.env)).all (fun x => !x.1) && (backToKw pos (keywordEach [] X.env)).all (fun x => x.1.isSome) && decide (([a] : List Expr).length + ([] : List Keyword).length + (if ([] : List Keyword).isEmpty then 0 else 1) < 30)) = true := by rfl)
    (hline : (apos.endLine == pos.line) = true := by rfl) (hs : starEach [a] X.env = (false, eval a X.env) :: starEach [] X.env := by rfl) (hplain : (backTo pos (starEach [] X.env)).any (·.1) = false := by rfl) :
    DE X W (.Call (.Attribute r "pop" apos) [a] [] pos) (dMt isLst mPopAt fr (dCons fa dNil)) := de_bm PySem.F.plainAttrs_list PySem.F.slot_list_pop PySem.F.type_list_pop mt_popAt ty_lst dmt_popAt hr (da_cons ha da_nil hs) hbase hfew hline hs hplain
end
end DL
/-! A comprehension that makes a set of texts. -/
namespace SN
open PySem PySem.Spec PyProof.Rows L2
section
variable {P : Program} {w : World} {A : Around} {E : Value → Shared → Prop} {s : Shared}
theorem add_text {a : Addr} {l : List Str} {x : Str} {u : Tok} {Q : Value → Shared → Prop} (S : SetS w s.heap a l) (room : l.length + 1 < 4000)
    (q : ∀ h', Heap.SameBut a s.heap h' → SetS w h' a (if x ∈ l then l else x :: l) → Q .none { s with heap := h', toks := s.toks + 1 }) :
    wpAny (model P w) A (call (.builtin "set.add") [.ref a, .str x u]) Q E s := by
  obtain ⟨o, es, ep, t, us, ho, hex, r⟩ := id S.ex
  refine wpAny_call_entry F.slot_set_add ⟨o, ho, hex.1⟩ F.entry_set_add ?_ (F.args_set_add_2 _ _)
  unfold Builtin.«set.add» Builtin.Frozenset.oneOther
  simp only [List.isEmpty_nil, bind_assoc]
  unfold Builtin.Frozenset.addrOf setAdd
  refine wpAny_bind (wpAny_pure ?_)
  try dsimp only
  refine wpAny_bind (wpAny_pure ?_)
  try dsimp only
  refine wpAny_bind (wpAny_holding ?_)
  refine wpAny_bind ((strKind P w).pyHash (k := x) ((isS (w := w) (P := P) (p := (x, u)) rfl).mpr rfl) ?_)
  refine put_text (s := { s with toks := s.toks + 1 }) S room fun b h' l' sb S2 c1 c2 => ?_
  show wpAny _ _ (ret Value.none) _ _ _
  refine wpAny_pure ⟨_, rfl, q h' sb ?_⟩
  by_cases c : x ∈ l
  · rw [if_pos c, ← c1 c]; exact S2
  · rw [if_neg c, ← c2 c]; exact S2
end
end SN
namespace DL
open PySem PySem.Spec L2 PyProof.Rows SN PpSet
section
variable {X : Cx}
theorem addT_ok {pins : List (Addr × Obj)} {σ : L2.St} {H : Hp} {s : Shared} {E : Value → Shared → Prop} {B : Addr} {l : List Str} {c : Str} {u : Tok} {Q : Value → Shared → Prop} (I : Inv X pins σ H s) (hB : H B = some (SetSO X.w B l)) (room : l.length + 1 < 4000)
    (q : ∀ s', Inv X pins σ (upd H B (SetSO X.w B (if c ∈ l then l else c :: l))) s' → Q .none s') : wpAny (model X.prog X.w) X.A (call (.builtin "set.add") [.ref B, .str c u]) Q E s := by
  have S : SetS X.w s.heap B l := (I.hok B _ hB).1
  refine add_text S room fun h' sb S2 => ?_
  obtain ⟨o, es, ep, t, us, ho, _⟩ := id S2.ex
  exact q _ (I.write (e := B) (t' := s.toks + 1) (by rw [hB]; trivial) (.inl rfl) (fun b v hb hv => (sb.2 b hb).trans hv) ⟨o, ho⟩ (setSO_ok S2))
/-- what a comprehension of texts asks, B its set -/
def tScT (w : World) (wi : TI) (g : TG) (tt : TT) (te : TE) (vs : List Nat) : TE := fun σ H Q => wi σ H fun J H1 => ∀ B, H1 B = none → ∃ Z : Nat → Nat → Hp → Prop, (∃ m, Z 0 m (upd H1 B (SetSO w B []))) ∧ ∀ i m H, Z i m H →
  (J.stop i H ∧ Q (.ref B) H) ∨ (J.go i H ∧ ∃ Nx : Hp → Prop, (∀ H', Nx H' → ∃ m', m' < m ∧ Z (i + 1) m' H') ∧ ∀ x H', J.yld i H x H' → g x (wipe σ vs) H' fun σ2 H2 => wipe σ2 vs = wipe σ vs ∧ tt σ2 H2 fun b H3 =>
    if b = true then te σ2 H3 fun y H4 => ∃ (c : Str) (l : List Str), y = .str c ∧ H4 B = some (SetSO w B l) ∧ l.length + 1 < 4000 ∧ Nx (upd H4 B (SetSO w B (if c ∈ l then l else c :: l))) else Nx H3)
theorem pe_scT {elt tg iter : Expr} {ifs : List Expr} {scope : Scope} {own : List (Str × Nat)} {pos : Pos} {wi : TI} {g : TG} {tt : TT} {te : TE} (hc : X.calm = true) (hN : X.N.Nodup) (hi : PI X tg iter wi) (ok : BlkOk X.N X.env.scope scope own)
    (hg : ∀ (s : Shared) (H : Hp) (C : Addr) (cl : List (Str × Addr)) (fp : List Addr), PG (X.blk s H scope (compEnvC scope cl C X.env) fp) tg g) (ht : ∀ (s : Shared) (H : Hp) (C : Addr) (cl : List (Str × Addr)) (fp : List Addr), PTs (X.blk s H scope (compEnvC scope cl C X.env) fp) ifs tt)
    (he : ∀ (s : Shared) (H : Hp) (C : Addr) (cl : List (Str × Addr)) (fp : List Addr), PE (X.blk s H scope (compEnvC scope cl C X.env) fp) elt te) (hs : ∀ x, foldedSetIterable iter X.env x = pure x) :
    PE X (.SetComp elt [⟨tg, iter, ifs, 0⟩] scope pos) (tScT X.w wi g tt te (own.map (·.2))) := by
  refine ⟨fun pins s σ H Q I h => ?_⟩
  rw [eval_SetComp]
  have caps : ∀ y ∈ scope.names, y.2 = .free → ∃ c, X.env.cells.lookup y.1 = some c := fun y hy e => I.ok.has _ (ok.free y hy e)
  refine wpAny_comprehension_free (use := none) rfl hs (closure_ok caps) ok.kind (fun y hy e => by rw [ok.uniq y hy, e])
    (thn (hi.run pins s σ H _ I h) fun xv s1 hx => thn hx fun itv s2 ⟨it, fp, tn, J, H2, e, I2, T, st2, f2, q⟩ => ?_)
  subst e
  refine newSet_ok (newEnv_comp ?_)
  obtain ⟨B, hB⟩ : ∃ B, s2.heap.objs.size = B := ⟨_, rfl⟩
  rw [hB]
  have free : H2 B = none := I2.hok.fresh (Nat.le_of_eq hB)
  obtain ⟨Z, ⟨m0, z0⟩, turn⟩ := q B free
  obtain ⟨s3, e3⟩ : ∃ s3 : Shared, ({ s2 with heap := s2.heap.push (newSet X.w) } : Shared) = s3 := ⟨_, rfl⟩
  have heap3 : s3.heap = s2.heap.push (newSet X.w) := by rw [← e3]
  have I3 : Inv X pins σ (upd H2 B (SetSO X.w B [])) s3 := by
    rw [← e3]
    exact I2.laid (t' := s2.toks) (fun b o e => Heap.get?_push_of_some _ e) (Nat.le_of_eq hB) (setSO_ok (freshS (by rw [← hB]; exact Heap.get?_push_size _ rfl)))
  have old : ∀ b ∈ fp, b < s2.heap.objs.size := fun b hb => by
    obtain ⟨o, e, _⟩ := T.obj _ _ st2 b hb
    exact Heap.lt_size e
  have feet : ∀ b ∈ fp, FpOk X pins (upd H2 B (SetSO X.w B [])) b ∧ b < s3.heap.objs.size := fun b hb => by
    have lt := old b hb
    refine ⟨⟨?_, (f2 b hb).2⟩, by rw [heap3, Heap.size_push]; exact Nat.lt_succ_of_lt lt⟩
    rw [upd_ne (by rw [← hB]; exact Nat.ne_of_lt lt)]
    exact (f2 b hb).1
  have st3 : tn 0 s3.heap := T.keep _ _ _ st2 fun b _ o e => by rw [heap3]; exact Heap.get?_push_of_some _ e
  have I4 := block_start I3 ok hN feet
  have pgX := hg s3 (upd H2 B (SetSO X.w B [])) s3.heap.objs.size (cellsFrom (s3.heap.objs.size + 1) scope.names (cloFrom X.env.cells scope.names [])) fp
  have ptX := ht s3 (upd H2 B (SetSO X.w B [])) s3.heap.objs.size (cellsFrom (s3.heap.objs.size + 1) scope.names (cloFrom X.env.cells scope.names [])) fp
  have peX := he s3 (upd H2 B (SetSO X.w B [])) s3.heap.objs.size (cellsFrom (s3.heap.objs.size + 1) scope.names (cloFrom X.env.cells scope.names [])) fp
  rw [show ({ s2 with heap := s2.heap.push { cls := .type "set", dict := none, data := .set #[] 0 (.fresh 0 0 (!X.w.params.followText "set-order")) } } : Shared) = s3 from e3]
  show codeAny _ _ (.compStart (.SetComp elt [⟨tg, iter, ifs, 0⟩] scope pos) 0 (.ref it) (.ref B) (compEnvC scope (cellsFrom (s3.heap.objs.size + 1) scope.names (cloFrom X.env.cells scope.names [])) s3.heap.objs.size X.env)) (compPost (model X.prog X.w) X.A X.xe none (EP X pins σ Q) (.ref B) s3.heap.objs.size) { s3 with heap := pushCells (s3.heap.push { cls := .type "dict", data := .dict #[] }) scope.names }
  have bare : ∀ b ∈ fp, (upd H2 B (SetSO X.w B [])) b = none := fun b hb => (feet b hb).1.1
  generalize hen : compEnvC scope (cellsFrom (s3.heap.objs.size + 1) scope.names (cloFrom X.env.cells scope.names [])) s3.heap.objs.size X.env = en at I4 pgX ptX peX ⊢
  have loc : en.locals = s3.heap.objs.size := by rw [← hen]; rfl
  generalize hH3 : upd H2 B (SetSO X.w B []) = H3 at I3 I4 pgX ptX peX z0 bare feet
  generalize hs4 : ({ s3 with heap := pushCells (s3.heap.push { cls := .type "dict", data := .dict #[] }) scope.names } : Shared) = s4 at I4 ⊢
  have st4 : tn 0 s4.heap := T.keep _ _ _ st3 fun b _ o e => by rw [← hs4]; exact pushCells_keeps _ _ _ _ (Heap.get?_push_of_some _ e)
  have stand : ∀ {τ : L2.St} {G : Hp} {r : Shared}, Inv (X.blk s3 H3 scope en fp) [] τ G r → (∀ b ∈ fp, G b = none) → ∀ b ∈ fp, FpOk (X.blk s3 H3 scope en fp) [] G b := fun {τ G r} J' nn b hb =>
    ⟨nn b hb, (J'.ok.exf b hb).1, J'.ok.exfs b hb, .inl hb, fun x c e => (J'.ok.exf b hb).2 x c e, fun p hp => absurd (show p ∈ ([] : List (Addr × Obj)) ++ [] from hp) (by simp)⟩
  have loop : codeAny (model X.prog X.w) X.A (.compLoop (.SetComp elt [⟨tg, iter, ifs, 0⟩] scope pos) 0 (.ref it) (.ref B) en) (compPost (model X.prog X.w) X.A X.xe none (EP X pins σ Q) (.ref B) s3.heap.objs.size) s4 := by
    refine compLoopS_any (fun k r => ∃ i G, Inv (X.blk s3 H3 scope en fp) [] (wipe σ (own.map (·.2))) G r ∧ tn i r.heap ∧ (∀ b ∈ fp, G b = none) ∧ Z i k G) ?_ m0 ⟨0, H3, I4, st4, bare, z0⟩
    rintro k s5 ⟨i, H5, I5, st5, nn5, z5⟩
    rcases turn i k H5 z5 with ⟨stop, fin⟩ | ⟨go, Nx, later, step⟩
    · refine thnF (T.done (X.blk s3 H3 scope en fp) rfl rfl rfl hc i [] s5 _ H5 (fun _ _ => False) I5 (stand I5 nn5) st5 stop) fun r s6 ⟨er, I6⟩ => ?_
      subst er
      have I7 : Inv X pins σ H5 s6 := I3.call' (ch := fp) I6.os I6.base I6.hok I6.bare fun b hb => ⟨(feet b hb).1.2.2.2.1, (feet b hb).1.2.1, (feet b hb).1.2.2.2.2.1, (feet b hb).1.2.2.2.2.2⟩
      have gone : H5 s3.heap.objs.size = none := by
        have y : H5 en.locals = none := I6.free
        rwa [loc] at y
      obtain ⟨mm, ns, _⟩ := I6.loc
      have ns' : s6.heap.Ns en.locals mm := ns
      rw [loc] at ns'
      obtain ⟨f0, f1, f2', f3', f4', f5'⟩ := I3.fpOk (Nat.le_refl s3.heap.objs.size) gone
      exact ⟨mm, ns', fun h'' sb => ⟨.ref B, H5, I7.turned (t' := s6.toks) (fun b o hb e => (sb.2 b hb).trans e) f0 f1 f3' f4' f5', rfl, fin⟩⟩
    · refine thnF (T.item (X.blk s3 H3 scope en fp) rfl rfl rfl hc i [] s5 _ H5 (fun _ _ => False) I5 (stand I5 nn5) st5 go) fun r s6 ⟨u, er, h6⟩ => ?_
      subst er
      refine thnF h6 fun _ s7 ⟨x, H7, I7, r7, y7, st7, nn7⟩ => ?_
      refine thnF (pgX.run _ s7 _ H7 x u _ (I7.pinned (stand I7 nn7) (T.obj _ _ st7)) r7 (step x H7 y7)) fun _ s8 ⟨σ8, H8, I8, w8, q8⟩ => ?_
      refine thnF (ptX.run _ s8 σ8 H8 _ I8 q8) fun b s9 ⟨H9, I9, q9⟩ => ?_
      have close : ∀ {r : Shared} {G : Hp}, Inv (X.blk s3 H3 scope en fp) ([] ++ pinsAt fp s7.heap) σ8 G r → Nx G → ∃ k', k' < k ∧ ∃ i G, Inv (X.blk s3 H3 scope en fp) [] (wipe σ (own.map (·.2))) G r ∧ tn i r.heap ∧ (∀ b ∈ fp, G b = none) ∧ Z i k' G := fun {r G} J' nx => by
        obtain ⟨k', lt, z'⟩ := later G nx
        have pin : ∀ b ∈ fp, ∀ o, s7.heap.get? b = some o → r.heap.get? b = some o ∧ G b = none := fun b hb o e =>
          ⟨(J'.pin (b, o) (List.mem_append_right _ (List.mem_append_right _ (mem_pinsAt hb e)))).1, (J'.pin (b, o) (List.mem_append_right _ (List.mem_append_right _ (mem_pinsAt hb e)))).2.1⟩
        refine ⟨k', lt, i + 1, G, (J'.unpinned (pins := [])).weak (by rw [← w8, wipe_length]) (fun j v e => ?_), T.keep _ _ _ st7 fun b hb o e => (pin b hb o e).1, fun b hb => ?_, z'⟩
        · rw [← w8] at e
          exact (wipe_some e).1
        · obtain ⟨o, e, _⟩ := T.obj _ _ st7 b hb
          exact (pin b hb o e).2
      cases b with
      | false =>
        simp only [Bool.false_eq_true, if_false] at q9 ⊢
        exact close I9 q9
      | true =>
        simp only [if_true] at q9 ⊢
        refine thnF (peX.run _ s9 σ8 H9 _ I9 q9) fun z s10 ⟨yv, H10, I10, r10, c, l, ey, inB, room, nx⟩ => ?_
        subst ey
        obtain ⟨tk, rfl⟩ := r10
        exact addT_ok (X := X.blk s3 H3 scope en fp) I10 inB room fun s11 I11 => close I11 nx
  exact codeAny_compStart_set loop (T.self X.A 0 _ _ _ st4 loop)
end
end DL
/-! {f for γ in φ if t}, texts. -/
namespace DL
open PySem PySem.Spec L2 SN
def addD (acc : List D) (y : D) : List D := if y ∈ acc then acc else y :: acc
def scF (l : Nat) (s : Src) (γ : D → En → Mem → R En) (t : DFb) (f : DF) (ρw : En) : List D → Mem → R Unit
  | [], m => if s.ok m = true then .ok () m else .stk
  | d :: ds, m => if s.ok m = true then (γ d ρw m).bnd fun ρ1 m1 => (t ρ1 m1).bnd fun b m2 => if b = true then (f ρ1 m2).bnd fun y m3 => (match m3[l]? with
      | some (.stt acc) => if acc.length + 1 < 4000 ∧ (y :: acc).all isStrD = true then scF l s γ t f ρw ds (m3.set l (.stt (addD acc y))) else .stk
      | _ => .stk) else scF l s γ t f ρw ds m2 else .stk
def dSc (φ : DFi) (γ : D → En → Mem → R En) (t : DFb) (f : DF) (vs : List Nat) : DF := fun ρ m => (φ ρ m).bind fun s m1 => (scF m1.length s γ t f (wipeD ρ vs) s.items (m1 ++ [.stt []])).bnd fun _ m2 => .ok (.ref m1.length) m2
section
variable {X : Cx} {K : PySem.W.Frag} {w : World} {mg : Str → Option Value} {W : WX} {σ σ' : L2.St} {ι ι' : Nat → Addr} {n n' : Nat} {H H' : Hp}
/-- the set at l gets a text -/
theorem rel_add {m : Mem} {l : Nat} {acc : List D} {y : D} {v : V} (M : RelM K w ι m H) (h : m[l]? = some (.stt acc)) (hz : acc.length + 1 < 4000) (ha : (y :: acc).all isStrD = true) (r : Rep K ι m.length H y v) :
    ∃ (c : Str) (ls : List Str), v = .str c ∧ H (ι l) = some (SetSO w (ι l) ls) ∧ ls.length + 1 < 4000 ∧ Step ι m.length H ι (m.set l (.stt (addD acc y))).length (upd H (ι l) (SetSO w (ι l) (if c ∈ ls then ls else c :: ls))) ∧ RelM K w ι (m.set l (.stt (addD acc y))) (upd H (ι l) (SetSO w (ι l) (if c ∈ ls then ls else c :: ls))) := by
  obtain ⟨ds', pm, hh⟩ := M.obj l _ h
  rw [List.all_cons, Bool.and_eq_true] at ha
  cases y with
  | str c =>
    obtain rfl : v = .str c := r
    obtain ⟨ls, rfl, e⟩ : ∃ ls : List Str, ds' = ls.map D.str ∧ H (ι l) = some (SetSO w (ι l) ls) := by
      rcases hh with hh | ⟨L, _, pr, ne⟩
      · exact hh
      · cases pr with
        | nil => exact absurd rfl ne
        | @cons d p _ _ c1 _ =>
          obtain ⟨xs, rfl⟩ := c1.1
          have := List.all_eq_true.mp ha.2 _ (pm.mem_iff.mp List.mem_cons_self)
          cases this
    have ll := pm.length_eq
    rw [List.length_map] at ll
    have S := Step.wr (ho := SetSO w (ι l) (if c ∈ ls then ls else c :: ls)) M h rfl
    refine ⟨c, ls, rfl, e, by omega, by rw [List.length_set]; exact S, M.wr h rfl rfl ⟨(if c ∈ ls then ls else c :: ls).map D.str, ?_, .inl ⟨_, rfl, upd_same⟩⟩⟩
    have mem : D.str c ∈ acc ↔ c ∈ ls := by
      rw [← pm.mem_iff, List.mem_map]
      exact ⟨fun ⟨x, hx, e⟩ => by cases e; exact hx, fun hx => ⟨c, hx, rfl⟩⟩
    unfold addD
    by_cases hc : c ∈ ls
    · rw [if_pos hc, if_pos (mem.mpr hc)]; exact pm
    · rw [if_neg hc, if_neg fun z => hc (mem.mp z), List.map_cons]; exact pm.cons _
  | _ => cases ha.1
theorem scF_nil {l : Nat} {s : Src} {γ : D → En → Mem → R En} {t : DFb} {f : DF} {ρw : En} {m : Mem} : scF l s γ t f ρw [] m = if s.ok m = true then .ok () m else .stk := rfl
theorem rd_sc {φ : DFi} {γ : D → En → Mem → R En} {t : DFb} {f : DF} {js : List Nat} {g : TG} {sl : List Nat} (gk : GOk K w mg W0 g γ sl) (hsl : ∀ i ∈ sl, i ∈ js) {Q : VK} (h : rdE K w mg W (dSc φ γ t f js) σ H Q) :
    tScT w (rdI K w mg W φ) g (rdT K w mg W0 t) (rdE K w mg W0 f) js σ H Q := by
  obtain ⟨ι0, ρ, m0, e, M, q⟩ := h
  refine ⟨ι0, ρ, m0, e, M, fin_then q fun ι1 m1 H1 s S1 M1 q1 J hJ B hB => ?_⟩
  have hl : (m1 ++ [MO.stt []]).length = m1.length + 1 := by simp
  have S2 : Step ι1 m1.length H1 (more ι1 m1.length B) (m1 ++ [MO.stt []]).length (upd H1 B (SetSO w B [])) := by rw [hl]; exact Step.new hB
  have M2 : RelM K w (more ι1 m1.length B) (m1 ++ [MO.stt []]) (upd H1 B (SetSO w B [])) := M1.new hB ⟨[], .nil, .inl ⟨[], rfl, upd_same⟩⟩
  have e2 := (e.step S1).step S2
  have hJ2 : ItR K w (more ι1 m1.length B) (m1 ++ [MO.stt []]).length (upd H1 B (SetSO w B [])) J s :=
    ⟨fun ι' m' H' i d S M o e => hJ.go ι' m' H' i d (S2.trans S) M o e, fun ι' m' H' i d x H'' S M o e y => hJ.yld ι' m' H' i d x H'' (S2.trans S) M o e y, fun ι' m' H' S M o => hJ.stop ι' m' H' (S2.trans S) M o⟩
  have at_ : more ι1 m1.length B m1.length = B := more_new
  have lt0 : m1.length < (m1 ++ [MO.stt []]).length := by rw [hl]; exact Nat.lt_succ_self _
  have q2 : fin K w mg W σ (more ι1 m1.length B) (m1 ++ [MO.stt []]).length (upd H1 B (SetSO w B [])) (fun ι' m' H' _ => fin K w mg W σ ι' m'.length H' (pV K Q) (.ok (.ref m1.length) m')) (scF m1.length s γ t f (wipeD ρ js) s.items (m1 ++ [.stt []])) := by
    have q3 := fin_step q1 S2
    cases hr : scF m1.length s γ t f (wipeD ρ js) s.items (m1 ++ [MO.stt []]) with
    | ok a m3 => rw [hr] at q3; exact fun ι3 H3 S3 M3 => fin_step q3 S3
    | exn c fs m3 => rw [hr] at q3; exact q3.elim
    | stk => rw [hr] at q3; exact q3.elim
  generalize more ι1 m1.length B = ιa at S2 M2 e2 hJ2 at_ q2
  generalize m1 ++ [MO.stt []] = ma at S2 M2 e2 hJ2 lt0 q2
  generalize upd H1 B (SetSO w B []) = Ha at S2 M2 e2 hJ2 q2 ⊢
  refine ⟨fun i k H => ∃ ι2 m2, Step ιa ma.length Ha ι2 m2.length H ∧ RelM K w ι2 m2 H ∧ i + k = s.items.length ∧ fin K w mg W σ ι2 m2.length H (fun ι' m' H' _ => fin K w mg W σ ι' m'.length H' (pV K Q) (.ok (.ref m1.length) m')) (scF m1.length s γ t f (wipeD ρ js) (s.items.drop i) m2),
    ⟨s.items.length, ιa, ma, Step.refl _ _ _, M2, by omega, q2⟩, ?_⟩
  rintro i k H2 ⟨ι2, m2, T2, M3, hk, q3⟩
  have e3 := e2.step T2
  by_cases hi : i < s.items.length
  · rw [List.drop_eq_getElem_cons hi] at q3
    have hd : s.items[i]? = some s.items[i] := List.getElem?_eq_getElem hi
    generalize s.items[i] = d at q3 hd
    cases hok : s.ok m2 with
    | false => unfold scF at q3; rw [hok] at q3; exact q3.elim
    | true =>
      unfold scF at q3
      rw [hok, if_pos rfl] at q3
      refine .inr ⟨hJ2.go ι2 m2 H2 i d T2 M3 hok hd, fun H' => ∃ ι3 m3, Step ιa ma.length Ha ι3 m3.length H' ∧ RelM K w ι3 m3 H' ∧ fin K w mg W σ ι3 m3.length H' (fun ι' m' H' _ => fin K w mg W σ ι' m'.length H' (pV K Q) (.ok (.ref m1.length) m')) (scF m1.length s γ t f (wipeD ρ js) (s.items.drop (i + 1)) m3),
        fun H' ⟨ι3, m3, T3, M4, q4⟩ => ⟨k - 1, by omega, ι3, m3, T3, M4, by omega, q4⟩, fun x H' y => ?_⟩
      obtain ⟨U2, N2, r2⟩ := hJ2.yld ι2 m2 H2 i d x H' T2 M3 hok hd y
      refine gk (wipe σ js) ι2 (wipeD ρ js) m2 H' d x _ ((e3.step U2).wipe js) N2 r2 (fin_bnd' (fin_step q3 U2) fun ι3 m3 H3 ρ3 S3 M4 q4 σ3 e4 w3 => ?_)
      refine ⟨(w3 js hsl).trans (wipe_idem σ js), ι3, ρ3, m3, e4, M4, fin_bnd' q4 fun ι4 m4 H4 b S4 M5 q5 => ?_⟩
      have T4 := ((T2.trans U2).trans S3).trans S4
      cases b with
      | false => exact ⟨ι4, m4, T4, M5, q5⟩
      | true =>
        refine ⟨ι4, ρ3, m4, e4.step S4, M5, fin_bnd' q5 fun ι5 m5 H5 yd S5 M6 q6 yv ry => ?_⟩
        have T5 := T4.trans S5
        cases hm : m5[m1.length]? with
        | none => rw [hm] at q6; exact q6.elim
        | some o =>
          rw [hm] at q6
          cases o with
          | stt acc =>
            have q7 : fin K w mg W σ ι5 m5.length H5 (fun ι' m' H' _ => fin K w mg W σ ι' m'.length H' (pV K Q) (.ok (.ref m1.length) m')) (if acc.length + 1 < 4000 ∧ (yd :: acc).all isStrD = true then scF m1.length s γ t f (wipeD ρ js) (s.items.drop (i + 1)) (m5.set m1.length (.stt (addD acc yd))) else .stk) := q6
            by_cases hz : acc.length + 1 < 4000 ∧ (yd :: acc).all isStrD = true
            · rw [if_pos hz] at q7
              obtain ⟨c, ls, h1, h2, h3, h4, h5⟩ := rel_add M6 hm hz.1 hz.2 ry
              have eB : ι5 m1.length = B := (T5.ext _ lt0).trans at_
              rw [eB] at h2 h4 h5
              exact ⟨c, ls, h1, h2, h3, ι5, _, T5.trans h4, h5, fin_step q7 h4⟩
            · rw [if_neg hz] at q7
              exact q7.elim
          | _ => exact q6.elim
  · have hi2 : i = s.items.length := by omega
    subst hi2
    rw [List.drop_length, scF_nil] at q3
    cases hok : s.ok m2 with
    | false => rw [hok] at q3; exact q3.elim
    | true =>
      rw [hok, if_pos rfl] at q3
      refine .inl ⟨hJ2.stop ι2 m2 H2 T2 M3 hok, ?_⟩
      have z := q3 ι2 H2 (Step.refl _ _ _) M3
      refine z ι2 H2 (Step.refl _ _ _) M3 (.ref B) ⟨Nat.lt_of_lt_of_le lt0 T2.le, ?_⟩
      rw [T2.ext _ lt0, at_]
theorem de_sc {elt tg iter : Expr} {ifs : List Expr} {scope : Scope} {own : List (Str × Nat)} {pos : Pos} {φ : DFi} {g : TG} {γ : D → En → Mem → R En} {sl : List Nat} {t : DFb} {f : DF} (hc : X.calm = true) (hN : X.N.Nodup) (hi : DI X W tg iter φ) (ok : BlkOk X.N X.env.scope scope own)
    (hg : ∀ (s : Shared) (H : Hp) (C : Addr) (cl : List (Str × Addr)) (fp : List Addr), PG (X.blk s H scope (compEnvC scope cl C X.env) fp) tg g) (gk : GOk X.K X.w X.mg W0 g γ sl) (hsl : ∀ i ∈ sl, i ∈ own.map (·.2))
    (ht : ∀ (s : Shared) (H : Hp) (C : Addr) (cl : List (Str × Addr)) (fp : List Addr), DTs (X.blk s H scope (compEnvC scope cl C X.env) fp) W0 ifs t)
    (he : ∀ (s : Shared) (H : Hp) (C : Addr) (cl : List (Str × Addr)) (fp : List Addr), DE (X.blk s H scope (compEnvC scope cl C X.env) fp) W0 elt f) (hs : ∀ x, foldedSetIterable iter X.env x = pure x := by intro _; rfl) :
    DE X W (.SetComp elt [⟨tg, iter, ifs, 0⟩] scope pos) (dSc φ γ t f (own.map (·.2))) := pe_imp (pe_scT (tt := rdT X.K X.w X.mg W0 t) (te := rdE X.K X.w X.mg W0 f) hc hN hi ok hg ht he hs) fun _ _ _ h => rd_sc gk hsl h
end
end DL
/-! A def that calls itself: nothing is known at depth 0. -/
namespace DL
open PySem PySem.Spec L2
theorem cal_none {P : Program} {w : World} {K : PySem.W.Frag} {mg : Str → Option Value} {base : Heap} {k : Nat} {x : Str} {st : Stmt} {ps N : List Str} {f : Addr} {fd : FuncData} (hmg : mg x = some (.ref f)) (Fu : Fun K x x st f fd) (S : FnScope N ps (defScope st)) (bi : Binds K fd ps []) :
    Cal P w K mg base (k + 1) x st ps fun _ _ => .stk := ⟨f, fd, hmg, Fu, bi, Fu.okX S (fun vs H Q E h => h.1) fun cdv A outer s H vs Q Ex hr h => by
      obtain ⟨_, _, _, _, _, _, q⟩ := h
      exact q.elim, fun _ _ _ => rfl⟩
/-- ** of ints, the answer below 2^27 bits -/
def cPowV (i j : Int) : Bool := decide (0 ≤ j ∧ (Builtin.Int.intBits i : Int) * j ≤ 2 ^ 27)
abbrev opPowV : O2 := opIntC cPowV fun i j => i ^ j.toNat
theorem op_powV {X : Cx} : OpR X (binaryOp .Pow) (rI (fun i j => 0 ≤ j ∧ (Builtin.Int.intBits i : Int) * j ≤ 2 ^ 27) fun i j => .int (i ^ j.toNat)) := opI fun _ _ _ _ _ _ _ hc q => PyProof.Rows.pow_int hc.1 hc.2 q
theorem de_powV {X : Cx} {W : WX} {a b : Expr} {fa fb : DF} {pos : Pos} (ha : DE X W a fa) (hb : DE X W b fb) : DE X W (.BinOp a .Pow b pos) (dBin opPowV fa fb) := de_op op_powV (dop_intC _ fun i j h => of_decide_eq_true h) ha hb
@[simp] theorem ev_powV_i (i j : Int) (m : Mem) : opPowV (.int i) (.int j) m = if cPowV i j = true then .ok (.int (i ^ j.toNat)) m else .stk := rfl
end DL
/-! list(a text); len(a text) is there already. -/
namespace DL
open PySem PySem.Spec L2 PyProof.Rows PySem.W
section
variable {prog : Program} {w : World} {A : Around} {E : Value → Shared → Prop} {s : Shared}
theorem str_ext {R : Result → Shared → Prop} (hh : A.handled = none) (S : Addr) (res : Value) (c₀ : Nat) (x : Str) (t : Tok) (hz : x.cps.size ≤ sizeLine) (hS : s.heap.get? S = some { cls := .type "list", data := .seq #[] c₀ })
    (fin : ∀ (s' : Shared) acc c', (∀ b o, b ≠ S → s.heap.get? b = some o → s'.heap.get? b = some o) → s'.gens = s.gens → s'.drawn = s.drawn → s'.os = s.os → s'.heap.get? S = some { cls := .type "list", dict := none, data := .seq acc c', slots := #[] } → ItemsOf (SignAt x) acc x.cps.size → R (.ok (.ret res)) s') :
    wpAny (model prog w) A.in1 (Builtin.List.listExtendWith (.ref S) (.str x t) res)
      (fun fin s' => match fin with | .done f => R (.ok f) s' | .again c' => c'.quiet = true ∧ codeAny (model prog w) A c' R s') (fun e s' => R (.error e) s') s := by
  have lt : S < s.heap.objs.size := Heap.lt_size hS
  unfold Builtin.List.listExtendWith
  refine wpAny_bind (wpAny_typeOf (T := "str") (v := .str x t) rfl ?_)
  have n1 : Builtin.List.listSameRef (.ref S) (.str x t) = false := rfl
  have n2 : (Value.type "str" == Value.type "list") = false := by decide
  have n3 : (Value.type "str" == Value.type "tuple") = false := by decide
  simp only [n1, n2, n3, Bool.or_false, Bool.false_eq_true, if_false]
  refine wpAny_bind (wpAny_pyIter_str fun o St W hst => ?_)
  refine wpAny_bind (wpAny_holding ?_)
  unfold Builtin.List.listLengthHint
  refine wpAny_bind (wpAny_specialOf (T := "str") (v := .str x t) rfl F.str_len ?_)
  wp_delta
  refine wpAny_bind (wpAny_isInstance (T := "str") (v := .str x t) (b := true) rfl (by rw [isSubtype_type]; kernel_rfl) ?_)
  show wpAny _ A.in1 (typeOf (Value.str x t) >>= _) _ _ _
  refine wpAny_bind (wpAny_typeOf (T := "str") (v := .str x t) rfl ?_)
  refine wpAny_pure ?_
  rw [if_neg (by decide)]
  have out : S ∉ [s.heap.objs.size] := fun z => absurd lt (by rw [List.mem_singleton.mp z]; exact Nat.lt_irrefl _)
  refine wpAny_pure ⟨plainId_quiet F.plain_extend_loop _, codeAny_extend_loopS (W A.in1 hh).toS hz S out res x.cps.size 0 _ _ _ rfl (Nat.zero_le _) hst (Heap.get?_push_of_some _ hS) (ItemsOf.nil _) fun s' acc' c' hm hS' hacc => ?_⟩
  refine fin s' acc' c' (fun b ob hb e => hm.heap b ob (fun z => ?_) (Heap.get?_push_of_some _ e)) hm.gens hm.drawn hm.os hS' hacc
  rcases List.mem_cons.mp z with y | y
  · exact hb y
  · exact absurd (Heap.lt_size e) (by rw [List.mem_singleton.mp y]; exact Nat.lt_irrefl _)
theorem str_ini {R : Result → Shared → Prop} (hh : A.handled = none) (S : Addr) (x : Str) (t : Tok) (hz : x.cps.size ≤ sizeLine) (hS : s.heap.get? S = some { cls := .type "list", data := .seq #[] })
    (fin : ∀ (s' : Shared) acc c', (∀ b o, b ≠ S → s.heap.get? b = some o → s'.heap.get? b = some o) → s'.gens = s.gens → s'.drawn = s.drawn → s'.os = s.os → s'.heap.get? S = some { cls := .type "list", dict := none, data := .seq acc c', slots := #[] } → ItemsOf (SignAt x) acc x.cps.size → R (.ok (.ret .none)) s') :
    wpAny (model prog w) A.in1 (Builtin.«list.__init__» ⟨[.ref S, .str x t], []⟩)
      (fun fin s' => match fin with | .done f => R (.ok f) s' | .again c' => c'.quiet = true ∧ codeAny (model prog w) A c' R s') (fun e s' => R (.error e) s') s := by
  show wpAny _ _ (do let old ← Builtin.List.listItems (.ref S); Builtin.List.listUpdate (.ref S) (fun _ => #[]); letGo old.toList.reverse; Builtin.List.listExtendWith (.ref S) (.str x t) .none) _ _ s
  refine wpAny_bind ?_
  unfold Builtin.List.listItems
  refine wpAny_bind (wpAny_seqItems hS rfl (wpAny_pure ?_))
  show wpAny _ _ (updateSeq S (fun _ => #[]) >>= fun _ => letGo (#[] : Array Value).toList.reverse >>= fun _ => Builtin.List.listExtendWith (.ref S) (.str x t) .none) _ _ s
  refine wpAny_bind (wpAny_updateSeq hS rfl ?_)
  have h2 := Heap.get?_update_self (Obj.mapSeq (fun _ => (#[] : Array Value))) hS rfl
  have oth : ∀ b o, b ≠ S → s.heap.get? b = some o → (s.heap.update S (Obj.mapSeq (fun _ => (#[] : Array Value)))).get? b = some o :=
    fun b o hb e => (Heap.get?_update_other _ _ (Ne.symm hb)).trans e
  refine wpAny_bind (wpAny_letGo ?_)
  exact str_ext hh S .none _ x t hz h2 fun s' acc c' k g d o hS' hacc => fin s' acc c' (fun b ob hb e => k b ob hb (oth b ob hb e)) g d o hS' hacc
theorem list_of_str {Q : Value → Shared → Prop} (hh : A.handled = none) (x : Str) (t : Tok) (hz : x.cps.size ≤ sizeLine)
    (q : ∀ (s' : Shared) acc c', (∀ b o, s.heap.get? b = some o → s'.heap.get? b = some o) → s'.gens = s.gens → s'.drawn = s.drawn → s'.os = s.os → s'.heap.get? s.heap.objs.size = some { cls := .type "list", dict := none, data := .seq acc c', slots := #[] } → ItemsOf (SignAt x) acc x.cps.size → Q (.ref s.heap.objs.size) s') :
    wpAny (model prog w) A (call (.type "list") [.str x t]) Q E s := by
  refine callType_codes (Q₁ := fun obj s₁ => obj = .ref s.heap.objs.size ∧ s₁ = { s with heap := s.heap.push { cls := .type "list", data := .seq #[] } }) PySem.F.called_list (PySem.F.typeCall_list_1 _) PySem.F.entry_list_init
    (code_list_new _ ⟨rfl, rfl⟩) fun obj s₁ h₁ => ?_
  obtain ⟨rfl, rfl⟩ := h₁
  have hS : (s.heap.push { cls := .type "list", data := .seq #[] }).get? s.heap.objs.size = some { cls := .type "list", data := .seq #[] } := Heap.get?_push_size _ rfl
  refine ⟨⟨_, hS, rfl⟩, PySem.F.args_list_init_2 _ _, str_ini (A := A.in1) hh _ x t hz hS fun s' acc c' k g d o hS' hacc => ⟨rfl, q s' acc c' (fun b ob e => k b ob (Nat.ne_of_lt (Heap.lt_size e)) (Heap.get?_push_of_some _ e)) g d o hS' hacc⟩⟩
end
def signsV (x : Str) : List V := x.cps.toList.map fun c => V.str ⟨#[c]⟩
theorem signs_reps {K : PySem.W.Frag} {ι : Nat → Addr} {n : Nat} {H : Hp} (x : Str) : Reps K ι n H (signsD x) (signsV x) := by
  unfold signsD signsV
  induction x.cps.toList with
  | nil => exact rfl
  | cons c cs ih => exact ⟨_, _, rfl, rfl, ih⟩
section
variable {X : Cx} {K : PySem.W.Frag} {w : World} {mg : Str → Option Value} {W : WX}
theorem cr_listS (hc : X.calm = true) : CallR X (.type "list") fun xs H Q => ∃ x, xs = [V.str x] ∧ x.cps.size ≤ sizeLine ∧ ∀ p, H p = none → Q (.ref p) (upd H p (.lst (signsV x))) := by
  intro pins s σ H vs us Q I r h
  obtain ⟨x, rfl, hz, q⟩ := h
  obtain ⟨u, rfl, ru⟩ := r.one
  obtain ⟨t, rfl⟩ := ru
  refine list_of_str (I.ok.hd hc) x t hz fun s' acc c' k g d o hS hacc => ?_
  have hn : H s.heap.objs.size = none := I.hok.fresh (Nat.le_refl _)
  have vals : Vals (signsV x) acc.toList := by
    refine vals_of_get (by rw [Array.length_toList, hacc.1]; simp [signsV]) fun i v u hv hu => ?_
    unfold signsV at hv
    rw [List.getElem?_map] at hv
    obtain ⟨c, h1, rfl⟩ := Option.map_eq_some_iff.mp hv
    rw [Array.getElem?_toList] at hu h1
    obtain ⟨c2, u2, h2, rfl⟩ := hacc.2 i u hu
    rw [h1] at h2
    cases h2
    exact ⟨u2, rfl⟩
  have I2 : Inv X pins σ (upd H s.heap.objs.size (.lst (signsV x))) s' := I.call' (ch := []) o (Un.laid k (Nat.le_refl _) hn) (I.hok.laid k (Nat.le_refl _) ⟨by simp [signsV]; simpa using hz, acc.toList, c', vals, by simpa using hS⟩) (by rw [g]; exact I.bare) (fun _ z => nomatch z)
  exact ⟨.ref _, _, I2, rfl, q _ hn⟩
/-- list: a tuple, a list, a text -/
def opListA : O1 := fun d m => match d with
  | .str x => if x.cps.size ≤ sizeLine then .ok (.ref m.length) (m ++ [.lst (signsD x)]) else .stk
  | _ => opList d m
theorem ct_or {T : String} {r r' : List V → Hp → VK → Prop} (h : CallR X (.type T) r) (h' : CallR X (.type T) r') : CallR X (.type T) fun vs H Q => r vs H Q ∨ r' vs H Q := by
  intro pins s σ H vs us Q I rv hq
  exact hq.elim (h pins s σ H vs us Q I rv) (h' pins s σ H vs us Q I rv)
theorem dca_listA : DCa K w mg W (fun vs H Q => (∃ p ys, vs = [V.ref p] ∧ (SqL K H p ys ∨ SqT K H p ys) ∧ ∀ l, H l = none → Q (.ref l) (upd H l (.lst ys))) ∨ ∃ x, vs = [V.str x] ∧ x.cps.size ≤ sizeLine ∧ ∀ p, H p = none → Q (.ref p) (upd H p (.lst (signsV x)))) (fn1 opListA) := dca1 fun σ ι m H x d Q M rx q => by
  cases d with
  | str z =>
    obtain rfl : x = V.str z := rx
    by_cases hz : z.cps.size ≤ sizeLine
    · simp only [opListA, hz, if_true] at q
      exact .inr ⟨z, rfl, hz, fun p hp => fin_lst M (signs_reps z) q p hp⟩
    · simp only [opListA, hz, if_false] at q
      exact q.elim
  | _ => exact .inl (dca_list (K := K) (w := w) (mg := mg) (W := W) σ ι m H [x] [_] Q M ⟨_, _, rfl, rx, rfl⟩ q)
end
section
variable {X : Cx} {W : WX} {k : Nat} {e : Expr} {f : DF} {p pos : Pos}
theorem e_listA (o : Ok X k) (B : Bi X.mg) (h : DE X W e f) (hg : Gl X "list" := by rfl) (h0 : starEach [e] X.env = (false, eval e X.env) :: starEach [] X.env := by rfl) (hp : (backTo pos (starEach [] X.env)).any (·.1) = false := by rfl) :
    DE X W (.Call (.Name "list" p) [e] [] pos) (dCall (fn1 opListA) (dCons f dNil)) := de_callTy (ct_or call_list_of (cr_listS o.calm)) dca_listA hg B.list bt_list (da_cons h da_nil h0) (by decide) (by decide) h0 hp
end
end DL
/-! Denotations evaluated: rewriting rules. -/
namespace DL
open PySem PySem.Spec L2
section
variable {ρ : En} {m m' : Mem} {f g h fa fb : DF} {fs : DFs} {d e x y : D} {α β : Type}
/-! answers -/
@[simp] theorem ev_bind (a : α) (k : α → Mem → R β) : (R.ok a m).bind k = k a m := rfl
@[simp] theorem ev_bindX (c : Str) (fl : List (Str × D)) (k : α → Mem → R β) : (R.exn c fl m).bind k = .exn c fl m := rfl
@[simp] theorem ev_bnd (a : α) (k : α → Mem → R β) : (R.ok a m).bnd k = k a m := rfl
@[simp] theorem ev_goes (a : α) (k : α → Mem → O) : (R.ok a m).goes ρ k = k a m := rfl
@[simp] theorem ev_goesX (c : Str) (fl : List (Str × D)) (k : α → Mem → O) : (R.exn c fl m).goes ρ k = .exn c fl ρ m := rfl
@[simp] theorem ev_only (a : α) (k : α → Mem → O) : (R.ok a m).only k = k a m := rfl
@[simp] theorem ev_thn_nx (k : DSt) : (O.nx ρ m).thn k = k ρ m := rfl
@[simp] theorem ev_thn_rt (k : DSt) : (O.rt d m).thn k = .rt d m := rfl
@[simp] theorem ev_thn_bk (k : DSt) : (O.bk ρ m).thn k = .bk ρ m := rfl
@[simp] theorem ev_thn_ct (k : DSt) : (O.ct ρ m).thn k = .ct ρ m := rfl
@[simp] theorem ev_thn_ex (c : Str) (fl : List (Str × D)) (k : DSt) : (O.exn c fl ρ m).thn k = .exn c fl ρ m := rfl
@[simp] theorem ev_turn_nx (k : DSt) : (O.nx ρ m).turn k = k ρ m := rfl
@[simp] theorem ev_turn_ct (k : DSt) : (O.ct ρ m).turn k = k ρ m := rfl
@[simp] theorem ev_turn_bk (k : DSt) : (O.bk ρ m).turn k = .nx ρ m := rfl
@[simp] theorem ev_turn_rt (k : DSt) : (O.rt d m).turn k = .rt d m := rfl
@[simp] theorem ev_turn_ex (c : Str) (fl : List (Str × D)) (k : DSt) : (O.exn c fl ρ m).turn k = .exn c fl ρ m := rfl
@[simp] theorem ev_val_nx : (O.nx ρ m).val = .ok .non m := rfl
@[simp] theorem ev_val_rt : (O.rt d m).val = .ok d m := rfl
@[simp] theorem ev_val_ex (c : Str) (fl : List (Str × D)) : (O.exn c fl ρ m).val = .exn c fl m := rfl
/-! expressions -/
@[simp] theorem ev_C : dC d ρ m = .ok d m := rfl
@[simp] theorem ev_var (i : Nat) : dVar i ρ m = (match ρ[i]? with | some (some d) => .ok d m | _ => .stk) := rfl
@[simp] theorem ev_bin (o : O2) : dBin o fa fb ρ m = (fa ρ m).bind fun x m1 => (fb ρ m1).bind fun y m2 => o x y m2 := rfl
@[simp] theorem ev_un (o : O1) : dUn o fa ρ m = (fa ρ m).bind fun x m1 => o x m1 := rfl
@[simp] theorem ev_call (o : ON) : dCall o fs ρ m = (fs ρ m).bind fun xs m1 => o xs m1 := rfl
@[simp] theorem ev_app (F : List D → Mem → R D) : dApp F [] fs ρ m = (fs ρ m).bind fun ds m1 => F (ds ++ []) m1 := rfl
@[simp] theorem ev_appK (F : List D → Mem → R D) (ix : List Nat) : dAppK F ix fs ρ m = (fs ρ m).bind fun ds m1 => if ds.length = ix.length then F (permL ix ds) m1 else .stk := rfl
@[simp] theorem ev_nil : dNil ρ m = .ok [] m := rfl
@[simp] theorem ev_cons : dCons f fs ρ m = (f ρ m).bind fun d m1 => (fs ρ m1).bind fun ds m2 => .ok (d :: ds) m2 := rfl
@[simp] theorem ev_tup : dTup fs ρ m = (fs ρ m).bind fun ds m1 => if ds.length ≤ sizeLine then .ok (.tup ds) m1 else .stk := rfl
@[simp] theorem ev_lst : dLst fs ρ m = (fs ρ m).bind fun ds m1 => if ds.length ≤ sizeLine then .ok (.ref m1.length) (m1 ++ [.lst ds]) else .stk := rfl
@[simp] theorem ev_newD : dNewD ρ m = .ok (.ref m.length) (m ++ [.dct []]) := rfl
@[simp] theorem ev_if (t : DFb) : dIf t f g ρ m = (t ρ m).bind fun b m1 => if b = true then f ρ m1 else g ρ m1 := rfl
@[simp] theorem ev_andV : dAndV f g ρ m = (f ρ m).bind fun d m1 => match d with | .bl true => g ρ m1 | .bl false => .ok (.bl false) m1 | _ => .stk := rfl
@[simp] theorem ev_orV : dOrV f g ρ m = (f ρ m).bind fun d m1 => match d with | .bl false => g ρ m1 | .bl true => .ok (.bl true) m1 | _ => .stk := rfl
@[simp] theorem ev_notV : dNotV f ρ m = (f ρ m).bind fun d m1 => match d with | .bl b => .ok (.bl (!b)) m1 | _ => .stk := rfl
@[simp] theorem ev_test : dTest f ρ m = (f ρ m).bind fun d m1 => match d with | .bl b => .ok b m1 | _ => .stk := rfl
@[simp] theorem ev_and (t u : DFb) : dAnd t u ρ m = (t ρ m).bind fun b m1 => if b = true then u ρ m1 else .ok false m1 := rfl
@[simp] theorem ev_or (t u : DFb) : dOr t u ρ m = (t ρ m).bind fun b m1 => if b = true then .ok true m1 else u ρ m1 := rfl
@[simp] theorem ev_not (t : DFb) : dNot t ρ m = (t ρ m).bind fun b m1 => .ok (!b) m1 := rfl
@[simp] theorem ev_tru : dTru f ρ m = (f ρ m).bind fun d m1 => match truD d m1 with | some b => .ok b m1 | none => .stk := rfl
@[simp] theorem ev_noPt : dNoPt ρ m = .ok none m := rfl
@[simp] theorem ev_pt : dPt f ρ m = (f ρ m).bind fun d m1 => match d with | .int i => .ok (some i) m1 | _ => .stk := rfl
@[simp] theorem ev_sl (o : OSl) (l u : DPt) : dSl o f l u ρ m = (f ρ m).bind fun d m1 => (l ρ m1).bind fun lo m2 => (u ρ m2).bind fun hi m3 => o d lo hi m3 := rfl
@[simp] theorem ev_mt (c : D → Mem → Bool) (o : D → List D → Mem → R D) : dMt c o f fs ρ m = (f ρ m).bind fun d m1 => if c d m1 = true then (fs ρ m1).bind fun ds m2 => o d ds m2 else .stk := rfl
@[simp] theorem ev_mt0 (c : D → Mem → Bool) (o : D → List D → Mem → R D) : dMt0 c o f ρ m = (f ρ m).bind fun d m1 => if c d m1 = true then o d [] m1 else .stk := rfl
@[simp] theorem ev_yes : dYes ρ m = .ok true m := rfl
@[simp] theorem ev_lc (φ : DFi) (γ : D → En → Mem → R En) (t : DFb) (vs : List Nat) : dLc φ γ t f vs ρ m = (φ ρ m).bind fun s m1 => (lcF m1.length s γ t f (wipeD ρ vs) s.items (m1 ++ [.lst []])).bnd fun _ m2 => .ok (.ref m1.length) m2 := rfl
/-! statements -/
@[simp] theorem ev_seq (a b : DSt) : dSeq a b ρ m = (a ρ m).thn b := rfl
@[simp] theorem ev_next : dNext ρ m = .nx ρ m := rfl
@[simp] theorem ev_break : dBreak ρ m = .bk ρ m := rfl
@[simp] theorem ev_cont : dCont ρ m = .ct ρ m := rfl
@[simp] theorem ev_drop : dDrop f ρ m = (f ρ m).goes ρ fun _ m1 => .nx ρ m1 := rfl
@[simp] theorem ev_ret : dRet f ρ m = (f ρ m).goes ρ fun d m1 => .rt d m1 := rfl
@[simp] theorem ev_retN : dRetN ρ m = .rt .non m := rfl
@[simp] theorem ev_ifS (t : DFb) (a b : DSt) : dIfS t a b ρ m = (t ρ m).goes ρ fun c m1 => if c = true then a ρ m1 else b ρ m1 := rfl
@[simp] theorem ev_set (i : Nat) : dSet i f ρ m = (f ρ m).goes ρ fun d m1 => .nx (ρ.set i (some d)) m1 := rfl
@[simp] theorem ev_asg (γ : D → En → Mem → R En) : dAsg f γ ρ m = (f ρ m).goes ρ fun d m1 => (γ d ρ m1).only fun ρ1 m2 => .nx ρ1 m2 := rfl
@[simp] theorem ev_sub (o : O3) : dSub f fa fb o ρ m = (f ρ m).goes ρ fun d m1 => (fa ρ m1).goes ρ fun c m2 => (fb ρ m2).goes ρ fun i m3 => (o c i d m3).goes ρ fun _ m4 => .nx ρ m4 := rfl
@[simp] theorem ev_while (c : DFb) (b : DSt) : dWhile c b ρ m = whileF c b FUEL ρ m := rfl
@[simp] theorem ev_for (φ : DFi) (γ : D → En → Mem → R En) (b : DSt) : dFor φ γ b ρ m = (φ ρ m).goes ρ fun s m1 => forF s γ b s.items ρ m1 := rfl
@[simp] theorem ev_it : dIt f ρ m = (f ρ m).bind srcOf := rfl
@[simp] theorem ev_range1 : dRange1 f ρ m = (f ρ m).bind fun d m1 => match d.intOf with | some j => if smallI j = true then .ok ⟨rngD 0 1 j.toNat, none⟩ m1 else .stk | none => .stk := rfl
@[simp] theorem ev_par3 (i j l : Nat) : dPar3 i j l fs ρ m = (fs ρ m).goes ρ fun ds m1 => match ds with | [d, e, f] => .nx (((ρ.set i (some d)).set j (some e)).set l (some f)) m1 | _ => .stk := rfl
@[simp] theorem ev_par (i j : Nat) : dPar i j fs ρ m = (fs ρ m).goes ρ fun ds m1 => match ds with | [d, e] => .nx ((ρ.set i (some d)).set j (some e)) m1 | _ => .stk := rfl
@[simp] theorem ev_raise (c : Str) (fns : List Str) : dRaise c fns fs ρ m = (fs ρ m).goes ρ fun ds m1 => if ds.length = fns.length then .exn c (fns.zip ds).reverse ρ m1 else .stk := rfl
@[simp] theorem ev_intOf (i : Int) : (D.int i).intOf = some i := rfl
/-! targets -/
@[simp] theorem ev_γName (i : Nat) : γName i d ρ m = .ok (ρ.set i (some d)) m := rfl
@[simp] theorem ev_γNil : γNil [] ρ m = .ok ρ m := rfl
@[simp] theorem ev_γCons (γ : D → En → Mem → R En) (δ : γs) (ds : List D) : γCons γ δ (d :: ds) ρ m = (γ d ρ m).bind fun ρ1 m1 => δ ds ρ1 m1 := rfl
@[simp] theorem ev_γTLt (n : Nat) (δ : γs) (ds : List D) : γTL n δ (.tup ds) ρ m = if ds.length = n then δ ds ρ m else .stk := rfl
@[simp] theorem ev_γTLr (n : Nat) (δ : γs) (l : Nat) : γTL n δ (.ref l) ρ m = (match seqOf m (.ref l) with | some ds => if ds.length = n then δ ds ρ m else .stk | none => .stk) := rfl
/-! operations -/
@[simp] theorem ev_sub_i (i j : Int) : opSub (.int i) (.int j) m = .ok (.int (i - j)) m := rfl
@[simp] theorem ev_add_i (i j : Int) : opAdd (.int i) (.int j) m = .ok (.int (i + j)) m := rfl
@[simp] theorem ev_mul_i (i j : Int) : opMul (.int i) (.int j) m = if cMul i j = true then .ok (.int (i * j)) m else .stk := rfl
@[simp] theorem ev_div_i (i j : Int) : opDiv (.int i) (.int j) m = if cDiv i j = true then .ok (.int (i / j)) m else .stk := rfl
@[simp] theorem ev_mod_i (i j : Int) : opMod (.int i) (.int j) m = if cMod i j = true then .ok (.int (i % j)) m else .stk := rfl
@[simp] theorem ev_pow_i (i j : Int) : opPow (.int i) (.int j) m = if cPow i j = true then .ok (.int (i ^ j.toNat)) m else .stk := rfl
@[simp] theorem ev_neg_i (i : Int) : opNeg (.int i) m = .ok (.int (-i)) m := rfl
@[simp] theorem ev_add_t (xs ys : List D) : opAdd (.tup xs) (.tup ys) m = if xs.length + ys.length ≤ sizeLine then .ok (.tup (xs ++ ys)) m else .stk := rfl
@[simp] theorem ev_add_s (a b : Str) : opAdd (.str a) (.str b) m = if a.length + b.length ≤ sizeLine then .ok (.str (a ++ b)) m else .stk := rfl
@[simp] theorem ev_add_r (l k : Nat) : opAdd (.ref l) (.ref k) m = (match m[l]?, m[k]? with | some (.lst xs), some (.lst ys) => if xs.length + ys.length ≤ sizeLine then .ok (.ref m.length) (m ++ [.lst (xs ++ ys)]) else .stk | _, _ => .stk) := rfl
@[simp] theorem ev_lt_i (i j : Int) : opLt (.int i) (.int j) m = .ok (.bl (decide (i < j))) m := rfl
@[simp] theorem ev_le_i (i j : Int) : opLe (.int i) (.int j) m = .ok (.bl (decide (i ≤ j))) m := rfl
@[simp] theorem ev_gt_i (i j : Int) : opGt (.int i) (.int j) m = .ok (.bl (decide (j < i))) m := rfl
@[simp] theorem ev_ge_i (i j : Int) : opGe (.int i) (.int j) m = .ok (.bl (decide (j ≤ i))) m := rfl
@[simp] theorem ev_isN : opIsN d .non m = .ok (.bl (decide (d = .non))) m := rfl
@[simp] theorem ev_notN : opNotN d .non m = .ok (.bl (!decide (d = .non))) m := rfl
@[simp] theorem ev_fn1 (o : O1) : fn1 o [d] m = o d m := rfl
@[simp] theorem ev_len_t (xs : List D) : opLen (.tup xs) m = .ok (.int xs.length) m := rfl
@[simp] theorem ev_len_r (l : Nat) : opLen (.ref l) m = (match seqOf m (.ref l) with | some xs => .ok (.int xs.length) m | none => .stk) := rfl
@[simp] theorem ev_abs_i (i : Int) : opAbs (.int i) m = .ok (.int (if i < 0 then -i else i)) m := rfl
@[simp] theorem ev_int_i (i : Int) : opIntOf (.int i) m = .ok (.int i) m := rfl
@[simp] theorem ev_str_i (i : Int) : opStr (.int i) m = if i.natAbs.log2 < 1920 then .ok (.str (toString i)) m else .stk := rfl
@[simp] theorem ev_list_t (xs : List D) : opList (.tup xs) m = .ok (.ref m.length) (m ++ [.lst xs]) := rfl
@[simp] theorem ev_list_r (l : Nat) : opList (.ref l) m = (match seqOf m (.ref l) with | some xs => .ok (.ref m.length) (m ++ [.lst xs]) | none => .stk) := rfl
@[simp] theorem ev_tuple_r (l : Nat) : opTuple (.ref l) m = (match seqOf m (.ref l) with | some xs => .ok (.tup xs) m | none => .stk) := rfl
@[simp] theorem ev_ix_t (xs : List D) (i : Int) : opIxM (.tup xs) (.int i) m = (match atI xs i with | some x => .ok x m | none => .stk) := rfl
@[simp] theorem ev_seq_r (l : Nat) : seqOf m (.ref l) = (match m[l]? with | some (.lst xs) => some xs | some (.frl xs) => some xs | _ => none) := by
  cases h : m[l]? with
  | none => simp [seqOf, h]
  | some o => cases o <;> simp [seqOf, h]
theorem ev_ix_r (l : Nat) (i : Int) : opIxM (.ref l) (.int i) m = (match m[l]? with
    | some (.dct kvs) => (match lookD kvs (.int i) with | some x => .ok x m | none => .stk)
    | some (.lst xs) => (match atI xs i with | some x => .ok x m | none => .stk)
    | some (.frl xs) => (match atI xs i with | some x => .ok x m | none => .stk)
    | _ => .stk) := by
  unfold opIxM
  cases h : m[l]? with
  | none => simp [opIx, seqOf, h]
  | some o =>
    cases o with
    | lst xs => cases h2 : atI xs i <;> simp [opIx, seqOf, h, h2]
    | frl xs => cases h2 : atI xs i <;> simp [opIx, seqOf, h, h2]
    | dct xs => cases h2 : lookD xs (.int i) <;> simp [opIx, seqOf, h, h2]
    | stt xs => simp [opIx, seqOf, h]
@[simp] theorem ev_ix_l {l : Nat} {xs : List D} {i : Int} (h : m[l]? = some (.lst xs)) : opIxM (.ref l) (.int i) m = (match atI xs i with | some x => .ok x m | none => .stk) := by rw [ev_ix_r, h]
@[simp] theorem ev_append (l : Nat) : mAppend (.ref l) [d] m = (match m[l]? with | some (.lst xs) => if xs.length < sizeLine then .ok .non (m.set l (.lst (xs ++ [d]))) else .stk | _ => .stk) := rfl
@[simp] theorem ev_isLst (l : Nat) : isLst (.ref l) m = (match m[l]? with | some (.lst _) => true | _ => false) := rfl
theorem at_nat {xs : List α} {i : Nat} {x : α} (h : xs[i]? = some x) : atI xs (i : Int) = some x := by
  have hl := lt_of_get h
  unfold atI ixN
  rw [if_pos (Int.natCast_nonneg _), if_pos (by exact_mod_cast hl)]
  simp [h]
@[simp] theorem at_0 (x : α) (xs : List α) : atI (x :: xs) 0 = some x := at_nat (i := 0) rfl
@[simp] theorem at_1 (x y : α) (xs : List α) : atI (x :: y :: xs) 1 = some y := at_nat (i := 1) rfl
@[simp] theorem at_2 (x y z : α) (xs : List α) : atI (x :: y :: z :: xs) 2 = some z := at_nat (i := 2) rfl
theorem at_int {xs : List α} {i : Int} {x : α} (h0 : 0 ≤ i) (h : xs[i.toNat]? = some x) : atI xs i = some x := by
  have := at_nat h
  rwa [Int.toNat_of_nonneg h0] at this
end
end DL
/-! Loops of denotations; what stays as it was; the laws' own draws. -/
namespace DL
open PySem PySem.Spec L2
/-! ### loops -/
theorem forF_inv {s : Src} {γ : D → En → Mem → R En} {b : DSt} (Inv : List D → En → Mem → Prop) (Post : O → Prop)
    (step : ∀ d ds ρ m, Inv (d :: ds) ρ m → s.ok m = true ∧ ∃ ρ1 m1, γ d ρ m = .ok ρ1 m1 ∧ (match b ρ1 m1 with
      | .nx ρ2 m2 => Inv ds ρ2 m2
      | .ct ρ2 m2 => Inv ds ρ2 m2
      | .bk ρ2 m2 => Post (.nx ρ2 m2)
      | .rt e m2 => Post (.rt e m2)
      | .exn c fs ρ2 m2 => Post (.exn c fs ρ2 m2)
      | .stk => False))
    (fin : ∀ ρ m, Inv [] ρ m → s.ok m = true ∧ Post (.nx ρ m)) : ∀ (ds : List D) (ρ : En) (m : Mem), Inv ds ρ m → Post (forF s γ b ds ρ m)
  | [], ρ, m, h => by
    obtain ⟨h1, h2⟩ := fin ρ m h
    unfold forF
    rw [if_pos h1]; exact h2
  | d :: ds, ρ, m, h => by
    obtain ⟨h1, ρ1, m1, h2, h3⟩ := step d ds ρ m h
    unfold forF
    rw [if_pos h1, h2, ev_only]
    cases hb : b ρ1 m1 with
    | nx ρ2 m2 => rw [hb] at h3; exact forF_inv Inv Post step fin ds ρ2 m2 h3
    | ct ρ2 m2 => rw [hb] at h3; exact forF_inv Inv Post step fin ds ρ2 m2 h3
    | bk ρ2 m2 => rw [hb] at h3; exact h3
    | rt e m2 => rw [hb] at h3; exact h3
    | exn c fs ρ2 m2 => rw [hb] at h3; exact h3
    | stk => rw [hb] at h3; exact h3.elim
theorem whileF_inv {c : DFb} {b : DSt} (Inv : Nat → En → Mem → Prop) (Post : O → Prop)
    (step : ∀ k ρ m, Inv k ρ m → ∃ t m1, c ρ m = .ok t m1 ∧ (t = false → Post (.nx ρ m1)) ∧ (t = true → match b ρ m1 with
      | .nx ρ2 m2 => ∃ j, j < k ∧ Inv j ρ2 m2
      | .ct ρ2 m2 => ∃ j, j < k ∧ Inv j ρ2 m2
      | .bk ρ2 m2 => Post (.nx ρ2 m2)
      | .rt e m2 => Post (.rt e m2)
      | .exn c fs ρ2 m2 => Post (.exn c fs ρ2 m2)
      | .stk => False)) : ∀ (n k : Nat) (ρ : En) (m : Mem), k < n → Inv k ρ m → Post (whileF c b n ρ m)
  | 0, _, _, _, h, _ => absurd h (Nat.not_lt_zero _)
  | n + 1, k, ρ, m, hk, h => by
    obtain ⟨t, m1, h1, h2, h3⟩ := step k ρ m h
    unfold whileF
    rw [h1, ev_goes]
    cases t with
    | false => exact h2 rfl
    | true =>
      have h4 := h3 rfl
      rw [if_pos rfl]
      cases hb : b ρ m1 with
      | nx ρ2 m2 => rw [hb] at h4; obtain ⟨j, hj, hi⟩ := h4; exact whileF_inv Inv Post step n j ρ2 m2 (by omega) hi
      | ct ρ2 m2 => rw [hb] at h4; obtain ⟨j, hj, hi⟩ := h4; exact whileF_inv Inv Post step n j ρ2 m2 (by omega) hi
      | bk ρ2 m2 => rw [hb] at h4; exact h4
      | rt e m2 => rw [hb] at h4; exact h4
      | exn c fs ρ2 m2 => rw [hb] at h4; exact h4
      | stk => rw [hb] at h4; exact h4.elim
theorem lcF_inv {l : Nat} {s : Src} {γ : D → En → Mem → R En} {t : DFb} {f : DF} {ρw : En} (Inv : List D → Mem → Prop) (Post : Mem → Prop)
    (step : ∀ d ds m, Inv (d :: ds) m → s.ok m = true ∧ ∃ ρ1 m1 b m2, γ d ρw m = .ok ρ1 m1 ∧ t ρ1 m1 = .ok b m2 ∧ (b = false → Inv ds m2) ∧ (b = true → ∃ y m3 acc, f ρ1 m2 = .ok y m3 ∧ m3[l]? = some (.lst acc) ∧ acc.length < sizeLine ∧ Inv ds (m3.set l (.lst (acc ++ [y])))))
    (fin : ∀ m, Inv [] m → s.ok m = true ∧ Post m) : ∀ (ds : List D) (m : Mem), Inv ds m → ∃ m', lcF l s γ t f ρw ds m = .ok () m' ∧ Post m'
  | [], m, h => by
    obtain ⟨h1, h2⟩ := fin m h
    refine ⟨m, ?_, h2⟩
    unfold lcF
    rw [if_pos h1]
  | d :: ds, m, h => by
    obtain ⟨h1, ρ1, m1, b, m2, h2, h3, h4, h5⟩ := step d ds m h
    unfold lcF
    rw [if_pos h1, h2, ev_bnd, h3, ev_bnd]
    cases b with
    | false => exact lcF_inv Inv Post step fin ds m2 (h4 rfl)
    | true =>
      obtain ⟨y, m3, acc, e1, e2, e3, e4⟩ := h5 rfl
      rw [if_pos rfl, e1, ev_bnd, e2]
      show ∃ m', (if acc.length < sizeLine then lcF l s γ t f ρw ds (m3.set l (.lst (acc ++ [y]))) else .stk) = .ok () m' ∧ Post m'
      rw [if_pos e3]
      exact lcF_inv Inv Post step fin ds _ e4
/-! ### what stays -/
structure Frm (ls : List Nat) (m m' : Mem) : Prop where
  le : m.length ≤ m'.length
  old : ∀ i, i < m.length → i ∉ ls → m'[i]? = m[i]?
theorem Frm.refl {ls : List Nat} {m : Mem} : Frm ls m m := ⟨Nat.le_refl _, fun _ _ _ => rfl⟩
theorem Frm.trans {ls : List Nat} {m m' m'' : Mem} (a : Frm ls m m') (b : Frm ls m' m'') : Frm ls m m'' := ⟨Nat.le_trans a.le b.le, fun i h n => (b.old i (Nat.lt_of_lt_of_le h a.le) n).trans (a.old i h n)⟩
theorem Frm.mono {ls ks : List Nat} {m m' : Mem} (a : Frm ls m m') (h : ∀ i ∈ ls, i ∈ ks) : Frm ks m m' := ⟨a.le, fun i hi n => a.old i hi fun z => n (h i z)⟩
theorem Frm.app {ls : List Nat} {m t : Mem} : Frm ls m (m ++ t) := ⟨by simp, fun i h _ => List.getElem?_append_left h⟩
theorem Frm.set {ls : List Nat} {m m' : Mem} {l : Nat} {o : MO} (a : Frm ls m m') (h : l ∈ ls ∨ m.length ≤ l) : Frm ls m (m'.set l o) := ⟨by rw [List.length_set]; exact a.le, fun i hi n => by
  rw [List.getElem?_set_ne, a.old i hi n]
  rcases h with h | h
  · exact fun z => n (z ▸ h)
  · omega⟩
theorem Frm.more {ls : List Nat} {m m' : Mem} {t : Mem} (a : Frm ls m m') : Frm ls m (m' ++ t) := a.trans Frm.app
theorem Frm.get {ls : List Nat} {m m' : Mem} (a : Frm ls m m') {i : Nat} {o : MO} (h : m[i]? = some o) (n : i ∉ ls) : m'[i]? = some o := (a.old i (lt_of_get h) n).trans h
theorem Frm.drop {ls : List Nat} {l : Nat} {m m' : Mem} (a : Frm (l :: ls) m m') (h : m.length ≤ l) : Frm ls m m' := ⟨a.le, fun i hi n => a.old i hi fun z => by
  rcases List.mem_cons.mp z with e | e
  · omega
  · exact n e⟩
theorem get_new {m : Mem} {o : MO} : (m ++ [o])[m.length]? = some o := by simp
theorem get_old {m t : Mem} {i : Nat} {o : MO} (h : m[i]? = some o) : (m ++ t)[i]? = some o := by rw [List.getElem?_append_left (lt_of_get h)]; exact h
theorem get_set {m : Mem} {i : Nat} {o o' : MO} (h : m[i]? = some o) : (m.set i o')[i]? = some o' := List.getElem?_set_self (lt_of_get h)
theorem get_set_ne {m : Mem} {i j : Nat} {o o' : MO} (h : m[i]? = some o) (n : j ≠ i) : (m.set j o')[i]? = some o := by rw [List.getElem?_set_ne n]; exact h
/-! ### the draws -/
/-- a state of draws at l, its pool at p -/
def Drw (m : Mem) (l p : Nat) : Prop := ∃ (mix k : Int) (pool : List Int), m[l]? = some (.lst [.ref p, .int mix, .int k]) ∧ 0 ≤ mix ∧ mix < 4294967296 ∧ 0 ≤ k ∧ m[p]? = some (.lst (pool.map .int))
theorem Drw.ne {m : Mem} {l p : Nat} (h : Drw m l p) : l ≠ p := by
  obtain ⟨mix, k, pool, h1, _, _, _, h2⟩ := h
  intro e
  subst e
  rw [h1] at h2
  cases pool with
  | nil => simp at h2
  | cons => simp at h2
theorem Drw.frm {ls : List Nat} {m m' : Mem} {l p : Nat} (h : Drw m l p) (a : Frm ls m m') (n1 : l ∉ ls) (n2 : p ∉ ls) : Drw m' l p := by
  obtain ⟨mix, k, pool, h1, a1, a2, a3, h2⟩ := h
  exact ⟨mix, k, pool, a.get h1 n1, a1, a2, a3, a.get h2 n2⟩
def nextG (a b c d e f g : Int) : DSt := (dSeq (dIfS (dTest (dBin opLt (dBin opIxM (dVar 0) (dC (.int 2))) (dCall (fn1 opLen) (dCons (dBin opIxM (dVar 0) (dC (.int 0))) dNil)))) (dSeq (dSet 2 (dBin opIxM (dBin opIxM (dVar 0) (dC (.int 0))) (dBin opIxM (dVar 0) (dC (.int 2)))))
  (dSeq (dSub (dBin opAdd (dBin opIxM (dVar 0) (dC (.int 2))) (dC (.int 1))) (dVar 0) (dC (.int 2)) opSetM)
  (dRet (dBin opMod (dCall (fn1 opIntOf) (dCons (dVar 2) dNil)) (dVar 1))))) dNext)
  (dSeq (dSub (dBin opMod (dCall (fn1 opIntOf) (dCons (dBin opAdd (dBin opMul (dBin opIxM (dVar 0) (dC (.int 1))) (dC (.int a))) (dC (.int b))) dNil)) (dC (.int c))) (dVar 0) (dC (.int 1)) opSetM)
  (dSeq (dSet 2 (dBin opMod (dCall (fn1 opIntOf) (dCons (dBin opMul (dBin opIxM (dVar 0) (dC (.int 1))) (dBin opAdd (dBin opDiv (dBin opIxM (dVar 0) (dC (.int 1))) (dC (.int d))) (dC (.int e)))) dNil)) (dC (.int f))))
  (dRet (dBin opMod (dCall (fn1 opIntOf) (dCons (dBin opDiv (dVar 2) (dC (.int g))) dNil)) (dVar 1))))))
theorem log_lt {i : Int} {n : Nat} (h0 : 0 ≤ i) (h : i < 2 ^ n) (hn : 0 < n) : i.natAbs.log2 < n := by
  by_cases hz : i.natAbs = 0
  · rw [hz]; simpa using hn
  · rw [Nat.log2_lt hz]
    have : (i.natAbs : Int) < 2 ^ n := by rw [Int.natAbs_of_nonneg h0]; exact h
    exact_mod_cast this
theorem mul_ok {i j : Int} (h0 : 0 ≤ i) (h : i < 2 ^ 100) (g0 : 0 ≤ j) (g : j < 2 ^ 100) : cMul i j = true := by
  unfold cMul
  have := log_lt h0 h (by decide)
  have := log_lt g0 g (by decide)
  exact decide_eq_true (by omega)
theorem div_ok {i j : Int} (g0 : 0 < j) (g : j < 2 ^ 100) : cDiv i j = true := by
  unfold cDiv
  have := log_lt (Int.le_of_lt g0) g (by decide)
  exact decide_eq_true ⟨g0, by omega⟩
theorem mod_ok {i j : Int} (g0 : 0 < j) : cMod i j = true := decide_eq_true g0
@[simp] theorem ev_set_l {m : Mem} {l : Nat} {xs : List D} {i : Int} {v : D} (h : m[l]? = some (.lst xs)) : opSetM (.ref l) (.int i) v m = (match ixN xs.length i with | some j => .ok () (m.set l (.lst (xs.set j v))) | none => .stk) := by
  cases h2 : ixN xs.length i <;> simp [opSetM, opSet, h, h2]
theorem ixN_nat {n i : Nat} (h : i < n) : ixN n (i : Int) = some i := by
  unfold ixN
  rw [if_pos (Int.natCast_nonneg _), if_pos (by exact_mod_cast h), Int.toNat_natCast]
theorem ixN_1 {n : Nat} (h : 1 < n) : ixN n 1 = some 1 := ixN_nat (i := 1) h
theorem ixN_2 {n : Nat} (h : 2 < n) : ixN n 2 = some 2 := ixN_nat (i := 2) h
theorem next_ok {a b c d e f g : Int} (ha : 0 ≤ a ∧ a < 2 ^ 40) (hb : 0 ≤ b ∧ b < 2 ^ 40) (hc : 0 < c ∧ c < 4294967296) (hd : 0 < d ∧ d < 2 ^ 40) (he : 0 ≤ e ∧ e < 2 ^ 40) (hf : 0 < f ∧ f < 2 ^ 40) (hg : 0 < g ∧ g < 2 ^ 40) {m : Mem} {l p : Nat} {many : Int} (h : Drw m l p) (hm : 0 < many) :
    ∃ j m', runB 2 3 (nextG a b c d e f g) [.ref l, .int many] m = .ok (.int j) m' ∧ 0 ≤ j ∧ j < many ∧ Frm [l] m m' ∧ Drw m' l p ∧ m'.length = m.length := by
  have hne := h.ne
  obtain ⟨mix, k, pool, h1, a1, a2, a3, h2⟩ := h
  have e1 := fun i => @mod_ok i many hm
  have e2 := fun i => @mod_ok i c hc.1
  have e3 := fun i => @mod_ok i f hf.1
  by_cases hk : k < pool.length
  · obtain ⟨n, rfl⟩ : ∃ n : Nat, k = n := ⟨k.toNat, (Int.toNat_of_nonneg a3).symm⟩
    have hn : n < pool.length := by exact_mod_cast hk
    have ep : atI (pool.map D.int) (n : Int) = some (.int pool[n]) := at_nat (by simp [hn])
    refine ⟨pool[n] % many, m.set l (.lst [.ref p, .int mix, .int (n + 1)]), ?_, Int.emod_nonneg _ (by omega), Int.emod_lt_of_pos _ hm, Frm.refl.set (.inl (by simp)), ⟨mix, n + 1, pool, get_set h1, a1, a2, by omega, get_set_ne h2 hne⟩, by simp⟩
    simp [runB, nextG, envD, h1, h2, hk, hn, ep, ixN_2, e1]
  · have q1 : 0 ≤ (mix * a + b) % c := Int.emod_nonneg _ (by omega)
    have q2 : (mix * a + b) % c < c := Int.emod_lt_of_pos _ hc.1
    have c1 : cMul mix a = true := mul_ok a1 (by omega) ha.1 (by omega)
    have q3 : 0 ≤ (mix * a + b) % c / d := Int.ediv_nonneg q1 (by omega)
    have q4 : (mix * a + b) % c / d ≤ (mix * a + b) % c := Int.ediv_le_self _ q1
    have c2 : cMul ((mix * a + b) % c) ((mix * a + b) % c / d + e) = true := mul_ok q1 (by omega) (by omega) (by omega)
    have c3 := fun i => @div_ok i d hd.1 (by omega)
    have c4 := fun i => @div_ok i g hg.1 (by omega)
    refine ⟨(((mix * a + b) % c * ((mix * a + b) % c / d + e)) % f / g) % many, m.set l (.lst [.ref p, .int ((mix * a + b) % c), .int k]), ?_, Int.emod_nonneg _ (by omega), Int.emod_lt_of_pos _ hm, Frm.refl.set (.inl (by simp)), ⟨(mix * a + b) % c, k, pool, get_set h1, q1, by omega, a3, get_set_ne h2 hne⟩, by simp⟩
    have h3 : (m.set l (.lst [.ref p, .int ((mix * a + b) % c), .int k]))[l]? = some (.lst [.ref p, .int ((mix * a + b) % c), .int k]) := get_set h1
    simp [runB, nextG, envD, h1, h2, hk, ixN_1, e1, e2, e3, c1, c2, c3, c4, h3]
end DL
/-! The laws' own start. -/
namespace DL
open PySem PySem.Spec L2
def startIn (q : Int) : DSt := (dSeq (dIfS (dTest (dBin opEq (dVar 4) (dC (.int 0)))) dBreak dNext)
  (dSeq (dDrop (dMt isLst mAppend (dVar 2) (dCons (dBin opMod (dCall (fn1 opIntOf) (dCons (dVar 4) dNil)) (dC (.int q))) dNil)))
  (dSet 4 (dBin opDiv (dVar 4) (dC (.int q))))))
def startOut (a c d e q : Int) : DSt := (dSeq (dSet 4 (dCall (fn1 opAbs) (dCons (dCall (fn1 opIntOf) (dCons (dVar 3) dNil)) dNil)))
  (dSeq (dSet 1 (dBin opMod (dCall (fn1 opIntOf) (dCons (dBin opAdd (dBin opAdd (dBin opMul (dVar 1) (dC (.int a))) (dBin opMod (dCall (fn1 opIntOf) (dCons (dVar 4) dNil)) (dC (.int c)))) (dC (.int d))) dNil)) (dC (.int e))))
  (dIfS (dTest (dBin opGe (dVar 4) (dBin opPow (dC (.int 10)) (dC (.int 18))))) (dFor (dRange1 (dC (.int 60))) (γName 5) (startIn q)) dNext)))
def startG (x a c d e q : Int) : DSt := (dSeq (dSet 1 (dC (.int x)))
  (dSeq (dSet 2 (dLst dNil))
  (dSeq (dFor (dIt (dSl opSl (dVar 0) dNoPt (dPt (dC (.int 63))))) (γName 3) (startOut a c d e q))
  (dRet (dLst (dCons (dVar 2) (dCons (dVar 1) (dCons (dC (.int 0)) dNil))))))))
/-! equality of data at D -/
mutual
theorem okS_py : ∀ d : D, d.okS = true → ∃ p, d.py = some p ∧ p.canLay0 = true ∧ p.depth = d.dep
  | .non, _ => ⟨_, rfl, rfl, rfl⟩
  | .int i, _ => ⟨_, rfl, rfl, rfl⟩
  | .str x, h => ⟨_, rfl, h, rfl⟩
  | .tup xs, h => by
    obtain ⟨ps, e, c, dd⟩ := okSs_py xs h
    exact ⟨.tuple ps, by simp only [D.py, e, Option.map_some], c, by simp only [PyData.depth, D.dep, dd]⟩
  | .bl _, h => by cases h
  | .ref _, h => by cases h
theorem okSs_py : ∀ ds : List D, D.okSs ds = true → ∃ ps, D.pys ds = some ps ∧ PyData.canLayAll0 ps = true ∧ PyData.depthAll ps = D.deps ds
  | [], _ => ⟨[], rfl, rfl, rfl⟩
  | d :: ds, h => by
    obtain ⟨h1, h2⟩ := okSs_cons h
    obtain ⟨p, e, c, dd⟩ := okS_py d h1
    obtain ⟨ps, e2, c2, dd2⟩ := okSs_py ds h2
    exact ⟨p :: ps, by simp only [D.pys, e, e2], by simp only [PyData.canLayAll0, c, c2, Bool.and_self], by simp only [PyData.depthAll, D.deps, dd, dd2]⟩
end
theorem ok_noref {d : D} (h : d.okS = true) (m : Mem) : seqOf m d = none := by cases d <;> first | rfl | cases h
theorem eqB_ok {neg : Bool} {x y : D} {m : Mem} (hx : x.okS = true) (hy : y.okS = true) (dx : x.dep ≤ 64) (dy : y.dep ≤ 64) : opEqB neg x y m = .ok (.bl (decide (x = y) != neg)) m := by
  obtain ⟨p, e1, c1, d1⟩ := okS_py x hx
  obtain ⟨q, e2, c2, d2⟩ := okS_py y hy
  unfold opEqB pyM
  rw [ok_noref hx, ok_noref hy]
  simp only [e1, e2]
  have s1 : SeqAt.shaped p = true := by simp [SeqAt.shaped, c1, d1, dx]
  have s2 : SeqAt.shaped q = true := by simp [SeqAt.shaped, c2, d2, dy]
  rw [s1, s2, py_eqv x y p q hx hy e1 e2]
  rfl
@[simp] theorem ev_eq_i (i j : Int) (m : Mem) : opEqB false (.int i) (.int j) m = .ok (.bl (decide (i = j))) m := by rw [eqB_ok rfl rfl (Nat.zero_le _) (Nat.zero_le _)]; simp
@[simp] theorem ev_ne_i (i j : Int) (m : Mem) : opEqB true (.int i) (.int j) m = .ok (.bl (!decide (i = j))) m := by rw [eqB_ok rfl rfl (Nat.zero_le _) (Nat.zero_le _)]; simp
theorem sz63 {n : Nat} (h : n < 100000) : n < sizeLine := Nat.lt_of_lt_of_le h (by decide)
theorem sz_le {n : Nat} (h : n ≤ 100000) : n ≤ sizeLine := Nat.le_trans h (by decide)
theorem rngD_len (lo c : Int) (k : Nat) : (rngD lo c k).length = k := by simp [rngD]
@[simp] theorem sz_0 : 0 ≤ sizeLine := Nat.zero_le _
@[simp] theorem sz_1 : 1 ≤ sizeLine := by decide
@[simp] theorem sz_2 : 2 ≤ sizeLine := by decide
@[simp] theorem sz_3 : 3 ≤ sizeLine := by decide
@[simp] theorem sz_4 : 4 ≤ sizeLine := by decide
section
variable {x a c d e q : Int}
/-- the inner loop -/
theorem start_in (hq : 1 < q ∧ q < 2 ^ 40) {mix : Int} {x3 x5 : Option D} {items : List D} : ∀ (ds : List D) (sz : Int) (pool : List Int) (y5 : Option D) (m : Mem), 0 ≤ sz → m[1]? = some (.lst (pool.map .int)) → m[2]? = some (.lst items) → m.length = 3 → pool.length + ds.length ≤ 50000 →
    ∃ (sz' : Int) (pool' : List Int) (z5 : Option D) (m' : Mem), forF ⟨rngD 0 1 60, none⟩ (γName 5) (startIn q) ds [some (.ref 0), some (.int mix), some (.ref 1), x3, some (.int sz), y5] m = .nx [some (.ref 0), some (.int mix), some (.ref 1), x3, some (.int sz'), z5] m' ∧
      m'[1]? = some (.lst (pool'.map .int)) ∧ m'[2]? = some (.lst items) ∧ m'.length = 3 ∧ pool'.length ≤ pool.length + ds.length
  | [], sz, pool, y5, m, h0, h1, h2, h3, h4 => ⟨sz, pool, y5, m, by simp [forF, Src.ok], h1, h2, h3, by simp⟩
  | dd :: ds, sz, pool, y5, m, h0, h1, h2, h3, h4 => by
    have e1 := fun i => @mod_ok i q (by omega)
    have e2 := fun i => @div_ok i q (by omega) (by omega)
    by_cases hz : sz = 0
    · subst hz
      exact ⟨0, pool, some dd, m, by simp [forF, Src.ok, startIn], h1, h2, h3, by omega⟩
    · have hl : (pool.map D.int).length < sizeLine := sz63 (by simp at h4 ⊢; omega)
      have hl' : pool.length < sizeLine := by simpa using hl
      obtain ⟨sz', pool', z5, m', e3, k1, k2, k3, k4⟩ := start_in hq (mix := mix) (x3 := x3) (x5 := x5) (items := items) ds (sz / q) (pool ++ [sz % q]) (some dd) (m.set 1 (.lst (pool.map D.int ++ [.int (sz % q)]))) (Int.ediv_nonneg h0 (by omega)) (by rw [get_set h1]; simp) (get_set_ne h2 (by decide)) (by simpa using h3) (by simp at h4 ⊢; omega)
      refine ⟨sz', pool', z5, m', ?_, k1, k2, k3, by simp at k4 ⊢; omega⟩
      rw [← e3]
      simp [forF, Src.ok, startIn, hz, h1, e1, e2, hl']
theorem start_out (ha : 0 ≤ a ∧ a < 2 ^ 40) (hc : 0 < c ∧ c < 2 ^ 40) (hd : 0 ≤ d ∧ d < 2 ^ 40) (he : 0 < e ∧ e < 4294967296) (hq : 1 < q ∧ q < 2 ^ 40) {items : List D} : ∀ (ds : List D) (mix : Int) (pool : List Int) (y3 y4 y5 : Option D) (m : Mem), (∀ z ∈ ds, ∃ i, z = D.int i) → 0 ≤ mix → mix < 4294967296 →
    m[1]? = some (.lst (pool.map .int)) → m[2]? = some (.lst items) → m.length = 3 → pool.length + 60 * ds.length ≤ 40000 →
    ∃ (mix' : Int) (pool' : List Int) (z3 z4 z5 : Option D) (m' : Mem), forF ⟨items, some (2, .lst items)⟩ (γName 3) (startOut a c d e q) ds [some (.ref 0), some (.int mix), some (.ref 1), y3, y4, y5] m = .nx [some (.ref 0), some (.int mix'), some (.ref 1), z3, z4, z5] m' ∧
      m'[1]? = some (.lst (pool'.map .int)) ∧ m'.length = 3 ∧ 0 ≤ mix' ∧ mix' < 4294967296
  | [], mix, pool, y3, y4, y5, m, hi, h0, h0', h1, h2, h3, h4 => ⟨mix, pool, y3, y4, y5, m, by simp [forF, Src.ok, h2], h1, h3, h0, h0'⟩
  | dd :: ds, mix, pool, y3, y4, y5, m, hi, h0, h0', h1, h2, h3, h4 => by
    obtain ⟨i, rfl⟩ := hi dd List.mem_cons_self
    have e1 := fun i => @mod_ok i c hc.1
    have e2 := fun i => @mod_ok i e he.1
    have c1 : cMul mix a = true := mul_ok h0 (by omega) ha.1 (by omega)
    have c2 : cPow 10 18 = true := by decide
    have abs0 : 0 ≤ (if i < 0 then -i else i) := by split <;> omega
    have s60 : smallI 60 = true := by decide
    have q1 : ∀ z : Int, 0 ≤ z % e := fun z => Int.emod_nonneg _ (by omega)
    have q2 : ∀ z : Int, z % e < e := fun z => Int.emod_lt_of_pos _ he.1
    simp only [List.length_cons] at h4
    by_cases hb : (1000000000000000000 : Int) ≤ (if i < 0 then -i else i)
    · obtain ⟨sz', pool', z5, m', e3, k1, k2, k3, k4⟩ := start_in hq (mix := (mix * a + (if i < 0 then -i else i) % c + d) % e) (x3 := some (D.int i)) (x5 := none) (items := items) (rngD 0 1 60) (if i < 0 then -i else i) pool y5 m abs0 h1 h2 h3 (by rw [rngD_len]; omega)
      rw [rngD_len] at k4
      obtain ⟨mix2, pool2, w3, w4, w5, m2, e4, j1, j2, j3, j4⟩ := start_out ha hc hd he hq (items := items) ds ((mix * a + (if i < 0 then -i else i) % c + d) % e) pool' (some (D.int i)) (some (.int sz')) z5 m' (fun z hz => hi z (List.mem_cons_of_mem _ hz)) (q1 _) (Int.lt_trans (q2 _) he.2) k1 k2 k3 (by omega)
      refine ⟨mix2, pool2, w3, w4, w5, m2, ?_, j1, j2, j3, j4⟩
      rw [← e4]
      simp [forF, Src.ok, h2, startOut, c1, c2, e1, e2, hb, s60, e3]
    · obtain ⟨mix2, pool2, w3, w4, w5, m2, e4, j1, j2, j3, j4⟩ := start_out ha hc hd he hq (items := items) ds ((mix * a + (if i < 0 then -i else i) % c + d) % e) pool (some (D.int i)) (some (.int (if i < 0 then -i else i))) y5 m (fun z hz => hi z (List.mem_cons_of_mem _ hz)) (q1 _) (Int.lt_trans (q2 _) he.2) h1 h2 h3 (by omega)
      refine ⟨mix2, pool2, w3, w4, w5, m2, ?_, j1, j2, j3, j4⟩
      rw [← e4]
      simp [forF, Src.ok, h2, startOut, c1, c2, e1, e2, hb]
theorem start_ok (hx : 0 ≤ x ∧ x < 2 ^ 31) (ha : 0 ≤ a ∧ a < 2 ^ 40) (hc : 0 < c ∧ c < 2 ^ 40) (hd : 0 ≤ d ∧ d < 2 ^ 40) (he : 0 < e ∧ e < 4294967296) (hq : 1 < q ∧ q < 2 ^ 40) {ns : List Int} {o : MO} (ho : o = .lst (ns.map .int) ∨ o = .frl (ns.map .int)) (hl : ns.length ≤ 63) :
    ∃ l p m', runB 1 6 (startG x a c d e q) [.ref 0] [o] = .ok (.ref l) m' ∧ Drw m' l p := by
  have hitems : ∀ z ∈ cutD (ns.map D.int) none (some 63), ∃ i, z = D.int i := fun z hz => by
    have := List.mem_of_mem_take hz
    have := List.mem_of_mem_drop this
    obtain ⟨i, _, rfl⟩ := List.mem_map.mp this
    exact ⟨i, rfl⟩
  have hlen : (cutD (ns.map D.int) none (some 63)).length ≤ 63 := by
    have : (cutD (ns.map D.int) none (some 63)).length ≤ (ns.map D.int).length := by
      unfold cutD
      rw [List.length_take, List.length_drop]
      omega
    rw [List.length_map] at this
    omega
  obtain ⟨mix', pool', z3, z4, z5, m', e1, h1, h2, h3, h4⟩ := start_out ha hc hd he hq (items := cutD (ns.map D.int) none (some 63)) (cutD (ns.map D.int) none (some 63)) x [] none none none [o, .lst [], .lst (cutD (ns.map D.int) none (some 63))] hitems hx.1 (by omega) rfl rfl rfl (by simp; omega)
  have e2 : opSl (.ref 0) none (some 63) [o, .lst []] = .ok (.ref 2) [o, .lst [], .lst (cutD (ns.map D.int) none (some 63))] := by
    rcases ho with rfl | rfl <;> simp [opSl]
  refine ⟨3, 1, m' ++ [.lst [.ref 1, .int mix', .int 0]], ?_, mix', 0, pool', by rw [← h2]; exact get_new, h3, h4, Int.le_refl _, get_old h1⟩
  simp [runB, startG, envD, e2, srcOf, e1, h2]
end
end DL
/-! The laws' own comparing (with a stack), where both sides are the same. -/
namespace DL
open PySem PySem.Spec L2
def pushG : DSt := (dDrop (dMt isLst mAppend (dVar 2) (dCons (dTup (dCons (dBin opIxM (dVar 4) (dVar 6)) (dCons (dBin opIxM (dVar 5) (dVar 6)) dNil))) dNil)))
def sameC : DSt := (dIfS (dTru (dUn (opIsi "tuple") (dVar 5))) (dSeq (dIfS (dOr (dNot (dTru (dUn (opIsi "tuple") (dVar 4)))) (dTest (dBin opNe (dCall (fn1 opLen) (dCons (dVar 4) dNil)) (dCall (fn1 opLen) (dCons (dVar 5) dNil))))) (dRet (dC (.bl false))) dNext)
  (dFor (dRange1 (dCall (fn1 opLen) (dCons (dVar 5) dNil))) (γName 6) pushG)) (dIfS (dTru (dUn (opIsi "list") (dVar 5))) (dSeq (dIfS (dOr (dNot (dTru (dUn (opIsi "list") (dVar 4)))) (dTest (dBin opNe (dCall (fn1 opLen) (dCons (dVar 4) dNil)) (dCall (fn1 opLen) (dCons (dVar 5) dNil))))) (dRet (dC (.bl false))) dNext)
  (dFor (dRange1 (dCall (fn1 opLen) (dCons (dVar 5) dNil))) (γName 6) pushG)) (dIfS (dTest (dBin opIsN (dVar 5) (dC .non))) (dIfS (dTest (dBin opNotN (dVar 4) (dC .non))) (dRet (dC (.bl false))) dNext) (dIfS (dTru (dUn (opIsi "bool") (dVar 5))) (dIfS (dOr (dNot (dTru (dUn (opIsi "bool") (dVar 4)))) (dTest (dBin opNe (dVar 4) (dVar 5)))) (dRet (dC (.bl false))) dNext) (dIfS (dTru (dUn (opIsi "str") (dVar 5))) (dIfS (dOr (dNot (dTru (dUn (opIsi "str") (dVar 4)))) (dTest (dBin opNe (dVar 4) (dVar 5)))) (dRet (dC (.bl false))) dNext) (dIfS (dOr (dTru (dUn (opIsi "bool") (dVar 4))) (dOr (dNot (dTru (dUn (opIsi "int") (dVar 4)))) (dTest (dBin opNe (dVar 4) (dVar 5))))) (dRet (dC (.bl false))) dNext))))))
def sameB : DSt := (dSeq (dIfS (dTest (dBin opEq (dCall (fn1 opLen) (dCons (dVar 2) dNil)) (dC (.int 0)))) (dRet (dC (.bl true))) dNext)
  (dSeq (dAsg (dMt0 isLst mPop (dVar 2)) (γTL 2 (γCons (γName 4) (γCons (γName 5) γNil)))) sameC))
def sameG : DSt := (dSeq (dSet 2 (dLst (dCons (dTup (dCons (dVar 0) (dCons (dVar 1) dNil))) dNil)))
  (dSeq (dFor (dRange1 (dC (.int 200000))) (γName 3) sameB)
  (dRet (dC (.bl false)))))
/-- pairs that are the same, the top one first; how many turns they take -/
inductive SameP (m : Mem) : List (D × D) → Nat → Prop where
  | nil : SameP m [] 0
  | one {d ps n} : d.isT = false → d.okS = true → SameP m ps n → SameP m ((d, d) :: ps) (n + 1)
  | bl {b ps n} : SameP m ps n → SameP m ((.bl b, .bl b) :: ps) (n + 1)
  | tup {xs ys ps n} : xs.length = ys.length → SameP m ((xs.zip ys).reverse ++ ps) n → SameP m ((.tup xs, .tup ys) :: ps) (n + 1)
  | lst {l k xs ys ps n} : m[l]? = some (.lst xs) → m[k]? = some (.lst ys) → xs.length = ys.length → SameP m ((xs.zip ys).reverse ++ ps) n → SameP m ((.ref l, .ref k) :: ps) (n + 1)
mutual
def D.nodes : D → Nat
  | .tup xs => D.nodesAll xs + 1
  | _ => 1
def D.nodesAll : List D → Nat
  | [] => 0
  | d :: ds => D.nodes d + D.nodesAll ds
end
theorem okS_dep0 {d : D} (h : d.isT = false) : d.dep ≤ 64 := by cases d <;> first | exact Nat.zero_le _ | cases h
theorem zip_self {xs : List D} : xs.zip xs = xs.map fun d => (d, d) := by
  induction xs with
  | nil => rfl
  | cons x xs ih => simp [ih]
mutual
theorem same_d {m : Mem} : ∀ (d : D) (ps : List (D × D)) (n : Nat), d.okS = true → SameP m ps n → SameP m ((d, d) :: ps) (n + d.nodes)
  | .non, ps, n, o, h => .one rfl o h
  | .int i, ps, n, o, h => .one rfl o h
  | .str x, ps, n, o, h => .one rfl o h
  | .tup xs, ps, n, o, h => by
    have := same_ds xs ps n o h
    refine .tup rfl ?_
    rw [zip_self, ← List.map_reverse]
    exact this
  | .bl _, _, _, o, _ => by cases o
  | .ref _, _, _, o, _ => by cases o
theorem same_ds {m : Mem} : ∀ (ds : List D) (ps : List (D × D)) (n : Nat), D.okSs ds = true → SameP m ps n → SameP m ((ds.reverse.map fun d => (d, d)) ++ ps) (n + D.nodesAll ds)
  | [], ps, n, o, h => h
  | d :: ds, ps, n, o, h => by
    obtain ⟨o1, o2⟩ := okSs_cons o
    have h1 := same_d d ps n o1 h
    have h2 := same_ds ds _ _ o2 h1
    rw [List.reverse_cons, List.map_append, List.append_assoc]
    simp only [D.nodesAll]
    rw [← Nat.add_assoc]
    exact h2
end
def prD (p : D × D) : D := .tup [p.1, p.2]
@[simp] theorem ev_tru_b (b : Bool) (m : Mem) : truD (.bl b) m = some b := rfl
@[simp] theorem ev_pop (l : Nat) (m : Mem) : mPop (.ref l) [] m = (match m[l]? with | some (.lst xs) => (match xs[xs.length - 1]? with | some y => .ok y (m.set l (.lst xs.dropLast)) | none => .stk) | _ => .stk) := rfl
/-- the pairs of two rows put on the stack -/
theorem push_ok {l : Nat} {ρ4 ρ5 : D} {xs ys : List D} {m0 : Mem} (get4 : ∀ (m : Mem) (i : Nat) (x : D), Frm [l] m0 m → xs[i]? = some x → opIxM ρ4 (.int (i : Nat)) m = .ok x m) (get5 : ∀ (m : Mem) (i : Nat) (x : D), Frm [l] m0 m → ys[i]? = some x → opIxM ρ5 (.int (i : Nat)) m = .ok x m) (hl : xs.length = ys.length) {x0 x1 x3 : Option D} {s : Src} (hs : s.lk = none) :
    ∀ (k i : Nat) (y6 : Option D) (st : List D) (m : Mem), i + k = ys.length → Frm [l] m0 m → m[l]? = some (.lst st) → st.length + k < sizeLine →
      ∃ z6 m', forF s (γName 6) pushG ((List.range' i k).map fun j => .int (j : Nat)) [x0, x1, some (.ref l), x3, some ρ4, some ρ5, y6] m = .nx [x0, x1, some (.ref l), x3, some ρ4, some ρ5, z6] m' ∧ Frm [l] m0 m' ∧ m'[l]? = some (.lst (st ++ ((xs.zip ys).drop i).map prD))
  | 0, i, y6, st, m, h, hf, hm, hz => by
    refine ⟨y6, m, by simp [forF, Src.ok, hs], hf, ?_⟩
    rw [List.drop_of_length_le (by simp; omega)]
    simpa using hm
  | k + 1, i, y6, st, m, h, hf, hm, hz => by
    have hi : i < ys.length := by omega
    have hi' : i < xs.length := by omega
    have e4 := get4 m i xs[i] hf (List.getElem?_eq_getElem hi')
    have e5 := get5 m i ys[i] hf (List.getElem?_eq_getElem hi)
    have hzz : st.length < sizeLine := by omega
    obtain ⟨z6, m', e1, h1, h2⟩ := push_ok get4 get5 hl (x0 := x0) (x1 := x1) (x3 := x3) hs k (i + 1) (some (.int i)) (st ++ [.tup [xs[i], ys[i]]]) (m.set l (.lst (st ++ [.tup [xs[i], ys[i]]]))) (by omega) (hf.set (.inl (by simp))) (get_set hm) (by simp; omega)
    refine ⟨z6, m', ?_, h1, ?_⟩
    · rw [← e1, List.range'_succ, List.map_cons]
      simp [forF, Src.ok, hs, pushG, e4, e5, hm, hzz]
    · have hzl : i < (xs.zip ys).length := by rw [List.length_zip, hl, Nat.min_self]; exact hi
      rw [h2, List.drop_eq_getElem_cons hzl, List.map_cons, List.append_assoc, List.singleton_append]
      simp only [prD, List.getElem_zip]
theorem Frm.put {M m m2 : Mem} {o : MO} (a : Frm [] M m) (b : Frm [M.length] (m.set M.length o) m2) : Frm [] M m2 :=
  ⟨Nat.le_trans a.le (by have := b.le; rwa [List.length_set] at this), fun i hi _ => by
    have ne : M.length ≠ i := by omega
    rw [b.old i (by rw [List.length_set]; exact Nat.lt_of_lt_of_le hi a.le) (by simp; omega), List.getElem?_set_ne ne]
    exact a.old i hi (by simp)⟩
theorem rngD_range' (k : Nat) : rngD 0 1 k = (List.range' 0 k).map fun j => .int (j : Nat) := by
  unfold rngD
  rw [List.range_eq_range']
  apply List.map_congr_left
  intro i _
  simp
theorem small_len {n : Nat} (h : n < 1000000) : smallI (n : Int) = true := by
  unfold smallI
  exact decide_eq_true ⟨by omega, by omega⟩
theorem sameP_get {m m' : Mem} {ps : List (D × D)} {n : Nat} (h : SameP m ps n) (k : ∀ (i : Nat) (xs : List D), m[i]? = some (MO.lst xs) → m'[i]? = some (MO.lst xs)) : SameP m' ps n := by
  induction h with
  | nil => exact .nil
  | one a b _ ih => exact .one a b ih
  | bl _ ih => exact .bl ih
  | tup a _ ih => exact .tup a ih
  | lst a b c _ ih => exact .lst (k _ _ a) (k _ _ b) c ih
theorem sameP_len {m : Mem} {ps : List (D × D)} {n : Nat} (h : SameP m ps n) : ps.length ≤ n := by
  induction h with
  | nil => exact Nat.le_refl _
  | one _ _ _ ih => simp; omega
  | bl _ ih => simp; omega
  | tup _ _ ih => simp at ih ⊢; omega
  | lst _ _ _ _ ih => simp at ih ⊢; omega
theorem stack_top {ps : List (D × D)} {p : D × D} : (((p :: ps).map prD).reverse)[((p :: ps).map prD).reverse.length - 1]? = some (prD p) := by
  simp
theorem stack_drop {ps : List (D × D)} {p : D × D} : (((p :: ps).map prD).reverse).dropLast = (ps.map prD).reverse := by
  simp
theorem stack_push {ps zs : List (D × D)} : (ps.map prD).reverse ++ zs.map prD = ((zs.reverse ++ ps).map prD).reverse := by
  simp
@[simp] theorem isi_NoneType_bool (m : Mem) : opIsi "bool" .non m = .ok (.bl false) m := rfl
@[simp] theorem isi_NoneType_int (m : Mem) : opIsi "int" .non m = .ok (.bl false) m := rfl
@[simp] theorem isi_NoneType_str (m : Mem) : opIsi "str" .non m = .ok (.bl false) m := rfl
@[simp] theorem isi_NoneType_tuple (m : Mem) : opIsi "tuple" .non m = .ok (.bl false) m := rfl
@[simp] theorem isi_NoneType_list (m : Mem) : opIsi "list" .non m = .ok (.bl false) m := rfl
@[simp] theorem isi_NoneType_dict (m : Mem) : opIsi "dict" .non m = .ok (.bl false) m := rfl
@[simp] theorem isi_bool_bool (b : Bool) (m : Mem) : opIsi "bool" (.bl b) m = .ok (.bl true) m := rfl
@[simp] theorem isi_bool_int (b : Bool) (m : Mem) : opIsi "int" (.bl b) m = .ok (.bl true) m := rfl
@[simp] theorem isi_bool_str (b : Bool) (m : Mem) : opIsi "str" (.bl b) m = .ok (.bl false) m := rfl
@[simp] theorem isi_bool_tuple (b : Bool) (m : Mem) : opIsi "tuple" (.bl b) m = .ok (.bl false) m := rfl
@[simp] theorem isi_bool_list (b : Bool) (m : Mem) : opIsi "list" (.bl b) m = .ok (.bl false) m := rfl
@[simp] theorem isi_bool_dict (b : Bool) (m : Mem) : opIsi "dict" (.bl b) m = .ok (.bl false) m := rfl
@[simp] theorem isi_int_bool (i : Int) (m : Mem) : opIsi "bool" (.int i) m = .ok (.bl false) m := rfl
@[simp] theorem isi_int_int (i : Int) (m : Mem) : opIsi "int" (.int i) m = .ok (.bl true) m := rfl
@[simp] theorem isi_int_str (i : Int) (m : Mem) : opIsi "str" (.int i) m = .ok (.bl false) m := rfl
@[simp] theorem isi_int_tuple (i : Int) (m : Mem) : opIsi "tuple" (.int i) m = .ok (.bl false) m := rfl
@[simp] theorem isi_int_list (i : Int) (m : Mem) : opIsi "list" (.int i) m = .ok (.bl false) m := rfl
@[simp] theorem isi_int_dict (i : Int) (m : Mem) : opIsi "dict" (.int i) m = .ok (.bl false) m := rfl
@[simp] theorem isi_str_bool (x : Str) (m : Mem) : opIsi "bool" (.str x) m = .ok (.bl false) m := rfl
@[simp] theorem isi_str_int (x : Str) (m : Mem) : opIsi "int" (.str x) m = .ok (.bl false) m := rfl
@[simp] theorem isi_str_str (x : Str) (m : Mem) : opIsi "str" (.str x) m = .ok (.bl true) m := rfl
@[simp] theorem isi_str_tuple (x : Str) (m : Mem) : opIsi "tuple" (.str x) m = .ok (.bl false) m := rfl
@[simp] theorem isi_str_list (x : Str) (m : Mem) : opIsi "list" (.str x) m = .ok (.bl false) m := rfl
@[simp] theorem isi_str_dict (x : Str) (m : Mem) : opIsi "dict" (.str x) m = .ok (.bl false) m := rfl
@[simp] theorem isi_tuple_bool (xs : List D) (m : Mem) : opIsi "bool" (.tup xs) m = .ok (.bl false) m := rfl
@[simp] theorem isi_tuple_int (xs : List D) (m : Mem) : opIsi "int" (.tup xs) m = .ok (.bl false) m := rfl
@[simp] theorem isi_tuple_str (xs : List D) (m : Mem) : opIsi "str" (.tup xs) m = .ok (.bl false) m := rfl
@[simp] theorem isi_tuple_tuple (xs : List D) (m : Mem) : opIsi "tuple" (.tup xs) m = .ok (.bl true) m := rfl
@[simp] theorem isi_tuple_list (xs : List D) (m : Mem) : opIsi "list" (.tup xs) m = .ok (.bl false) m := rfl
@[simp] theorem isi_tuple_dict (xs : List D) (m : Mem) : opIsi "dict" (.tup xs) m = .ok (.bl false) m := rfl
@[simp] theorem isi_ref_bool {m : Mem} {l : Nat} {xs : List D} (h : m[l]? = some (.lst xs)) : opIsi "bool" (.ref l) m = .ok (.bl false) m := by
  have h2 : tyD m (.ref l) = some "list" := by simp [tyD, h]
  unfold opIsi
  rw [h2]
  rfl
@[simp] theorem isi_ref_int {m : Mem} {l : Nat} {xs : List D} (h : m[l]? = some (.lst xs)) : opIsi "int" (.ref l) m = .ok (.bl false) m := by
  have h2 : tyD m (.ref l) = some "list" := by simp [tyD, h]
  unfold opIsi
  rw [h2]
  rfl
@[simp] theorem isi_ref_str {m : Mem} {l : Nat} {xs : List D} (h : m[l]? = some (.lst xs)) : opIsi "str" (.ref l) m = .ok (.bl false) m := by
  have h2 : tyD m (.ref l) = some "list" := by simp [tyD, h]
  unfold opIsi
  rw [h2]
  rfl
@[simp] theorem isi_ref_tuple {m : Mem} {l : Nat} {xs : List D} (h : m[l]? = some (.lst xs)) : opIsi "tuple" (.ref l) m = .ok (.bl false) m := by
  have h2 : tyD m (.ref l) = some "list" := by simp [tyD, h]
  unfold opIsi
  rw [h2]
  rfl
@[simp] theorem isi_ref_list {m : Mem} {l : Nat} {xs : List D} (h : m[l]? = some (.lst xs)) : opIsi "list" (.ref l) m = .ok (.bl true) m := by
  have h2 : tyD m (.ref l) = some "list" := by simp [tyD, h]
  unfold opIsi
  rw [h2]
  rfl
@[simp] theorem isi_ref_dict {m : Mem} {l : Nat} {xs : List D} (h : m[l]? = some (.lst xs)) : opIsi "dict" (.ref l) m = .ok (.bl false) m := by
  have h2 : tyD m (.ref l) = some "list" := by simp [tyD, h]
  unfold opIsi
  rw [h2]
  rfl
@[simp] theorem ev_ne_b (i j : Bool) (m : Mem) : opEqB true (.bl i) (.bl j) m = .ok (.bl (i != j)) m := by
  cases i <;> cases j <;> rfl
/-- one turn: the top pair is taken -/
theorem same_pop {l : Nat} {st : List D} {a b : D} {m : Mem} {x0 x1 y3 y4 y5 y6 : Option D} {dd : D} (hm : m[l]? = some (.lst st)) (h1 : 0 < st.length) (h2 : st[st.length - 1]? = some (.tup [a, b])) :
    ((dAsg (dMt0 isLst mPop (dVar 2)) (γTL 2 (γCons (γName 4) (γCons (γName 5) γNil)))) [x0, x1, some (.ref l), some dd, y4, y5, y6] m) = .nx [x0, x1, some (.ref l), some dd, some a, some b, y6] (m.set l (.lst st.dropLast)) := by
  simp [hm, h2]
theorem forF_none {s : Src} (hs : s.lk = none) (γ : D → En → Mem → R En) (b : DSt) (d : D) (ds : List D) (ρ : En) (m : Mem) : forF s γ b (d :: ds) ρ m = (γ d ρ m).only fun ρ1 m1 => (b ρ1 m1).turn (forF s γ b ds) := by
  have h : s.ok m = true := by unfold Src.ok; rw [hs]
  show (if s.ok m = true then _ else _) = _
  rw [if_pos h]
section
variable {M : Mem} {x0 x1 y4 y5 y6 : Option D} {dd : D} {st : List D} {m : Mem} {k : Nat}
/-- what a turn tests first -/
theorem sameB_pop {a b : D} (hm : m[M.length]? = some (.lst st)) (h1 : st.length = k + 1) (h2 : st[st.length - 1]? = some (.tup [a, b])) :
    sameB [x0, x1, some (.ref M.length), some dd, y4, y5, y6] m = sameC [x0, x1, some (.ref M.length), some dd, some a, some b, y6] (m.set M.length (.lst st.dropLast)) := by
  have h0 : ¬ ((k : Int) + 1 = 0) := by omega
  have e1 := same_pop (x0 := x0) (x1 := x1) (y3 := none) (y4 := y4) (y5 := y5) (y6 := y6) (dd := dd) hm (by omega) h2
  have e0 : (dIfS (dTest (dBin opEq (dCall (fn1 opLen) (dCons (dVar 2) dNil)) (dC (.int 0)))) (dRet (dC (.bl true))) dNext) [x0, x1, some (.ref M.length), some dd, y4, y5, y6] m = .nx [x0, x1, some (.ref M.length), some dd, y4, y5, y6] m := by
    simp [hm, h1, h0]
  unfold sameB
  rw [ev_seq, e0, ev_thn_nx, ev_seq, e1, ev_thn_nx]
theorem sameC_one {d : D} (hT : d.isT = false) (ho : d.okS = true) : sameC [x0, x1, some (.ref M.length), some dd, some d, some d, y6] m = .nx [x0, x1, some (.ref M.length), some dd, some d, some d, y6] m := by
  have e2 : opEqB true d d m = .ok (.bl false) m := by rw [eqB_ok ho ho (okS_dep0 hT) (okS_dep0 hT)]; simp
  cases d with
  | tup xs => cases hT
  | bl b => cases ho
  | ref b => cases ho
  | non => simp [sameC]
  | int i => simp [sameC]
  | str i => simp [sameC, e2]
theorem sameC_bl {b : Bool} : sameC [x0, x1, some (.ref M.length), some dd, some (.bl b), some (.bl b), y6] m = .nx [x0, x1, some (.ref M.length), some dd, some (.bl b), some (.bl b), y6] m := by
  simp [sameC]
theorem for_range1 {f : DF} {ρ : En} {m m' : Mem} {k : Nat} {γ : D → En → Mem → R En} {b : DSt} (h : f ρ m = .ok (.int k) m') (hs : smallI k = true) : dFor (dRange1 f) γ b ρ m = forF ⟨rngD 0 1 k, none⟩ γ b (rngD 0 1 k) ρ m' := by
  have e : dRange1 f ρ m = .ok ⟨rngD 0 1 k, none⟩ m' := by
    rw [ev_range1, h, ev_bind, ev_intOf]
    show (if smallI (k : Int) = true then (R.ok (⟨rngD 0 1 (k : Int).toNat, none⟩ : Src) m') else .stk) = _
    rw [if_pos hs, Int.toNat_natCast]
  rw [ev_for, e, ev_goes]
theorem sameC_tup {xs ys : List D} (hxy : xs.length = ys.length) (hm : m[M.length]? = some (.lst st)) (hz : st.length + ys.length < 90000) (hf : Frm [] M m) : ∃ z6 m', sameC [x0, x1, some (.ref M.length), some dd, some (.tup xs), some (.tup ys), y6] m = .nx [x0, x1, some (.ref M.length), some dd, some (.tup xs), some (.tup ys), z6] m' ∧ Frm [] M m' ∧ m'[M.length]? = some (.lst (st ++ (xs.zip ys).map prD)) := by
  have hsm : smallI (ys.length : Int) = true := small_len (by omega)
  obtain ⟨z6, m2, e2, f2, g2⟩ := push_ok (l := M.length) (ρ4 := .tup xs) (ρ5 := .tup ys) (xs := xs) (ys := ys) (m0 := m) (fun m i x _ hx => by simp [at_nat hx]) (fun m i x _ hx => by simp [at_nat hx]) hxy (x0 := x0) (x1 := x1) (x3 := some dd) (s := ⟨rngD 0 1 ys.length, none⟩) rfl ys.length 0 y6 _ _ (by omega) Frm.refl hm (sz63 (by omega))
  rw [List.drop_zero] at g2
  rw [← rngD_range'] at e2
  refine ⟨z6, m2, ?_, ?_, g2⟩
  · have hnl : ((xs.length : Int) = (ys.length : Int)) := by rw [hxy]
    have e5 := for_range1 (f := dCall (fn1 opLen) (dCons (dVar 5) dNil)) (ρ := [x0, x1, some (.ref M.length), some dd, some (.tup xs), some (.tup ys), y6]) (m := m) (m' := m) (k := ys.length) (γ := γName 6) (b := pushG) (by simp) hsm
    rw [e2] at e5
    have t1 : dTru (dUn (opIsi "tuple") (dVar 5)) [x0, x1, some (.ref M.length), some dd, some (.tup xs), some (.tup ys), y6] m = .ok true m := by simp
    have t2 : dIfS (dOr (dNot (dTru (dUn (opIsi "tuple") (dVar 4)))) (dTest (dBin opNe (dCall (fn1 opLen) (dCons (dVar 4) dNil)) (dCall (fn1 opLen) (dCons (dVar 5) dNil))))) (dRet (dC (.bl false))) dNext [x0, x1, some (.ref M.length), some dd, some (.tup xs), some (.tup ys), y6] m = .nx [x0, x1, some (.ref M.length), some dd, some (.tup xs), some (.tup ys), y6] m := by simp [hnl]
    unfold sameC
    rw [ev_ifS, t1, ev_goes, if_pos rfl, ev_seq, t2, ev_thn_nx, e5]
  · exact ⟨Nat.le_trans hf.le f2.le, fun i hi _ => by rw [f2.old i (Nat.lt_of_lt_of_le hi hf.le) (by simp; omega)]; exact hf.old i hi (by simp)⟩
theorem sameC_lst {j h : Nat} {xs ys : List D} (hj : M[j]? = some (.lst xs)) (hh : M[h]? = some (.lst ys)) (hxy : xs.length = ys.length) (hm : m[M.length]? = some (.lst st)) (hz : st.length + ys.length < 90000) (hf : Frm [] M m) : ∃ z6 m', sameC [x0, x1, some (.ref M.length), some dd, some (.ref j), some (.ref h), y6] m = .nx [x0, x1, some (.ref M.length), some dd, some (.ref j), some (.ref h), z6] m' ∧ Frm [] M m' ∧ m'[M.length]? = some (.lst (st ++ (xs.zip ys).map prD)) := by
  have hsm : smallI (ys.length : Int) = true := small_len (by omega)
  have nj : ∀ {m' : Mem}, Frm [M.length] m m' → m'[j]? = some (.lst xs) := fun f => f.get (hf.get hj (by simp)) (by have := lt_of_get hj; simp; omega)
  have nh : ∀ {m' : Mem}, Frm [M.length] m m' → m'[h]? = some (.lst ys) := fun f => f.get (hf.get hh (by simp)) (by have := lt_of_get hh; simp; omega)
  obtain ⟨z6, m2, e2, f2, g2⟩ := push_ok (l := M.length) (ρ4 := .ref j) (ρ5 := .ref h) (xs := xs) (ys := ys) (m0 := m) (fun m i x f hx => by simp [ev_ix_l (nj f), at_nat hx]) (fun m i x f hx => by simp [ev_ix_l (nh f), at_nat hx]) hxy (x0 := x0) (x1 := x1) (x3 := some dd) (s := ⟨rngD 0 1 ys.length, none⟩) rfl ys.length 0 y6 _ _ (by omega) Frm.refl hm (sz63 (by omega))
  rw [List.drop_zero] at g2
  rw [← rngD_range'] at e2
  refine ⟨z6, m2, ?_, ?_, g2⟩
  · have hnl : ((xs.length : Int) = (ys.length : Int)) := by rw [hxy]
    have n1 := nj (Frm.refl (ls := [M.length]) (m := m))
    have n2 := nh (Frm.refl (ls := [M.length]) (m := m))
    have e5 := for_range1 (f := dCall (fn1 opLen) (dCons (dVar 5) dNil)) (ρ := [x0, x1, some (.ref M.length), some dd, some (.ref j), some (.ref h), y6]) (m := m) (m' := m) (k := ys.length) (γ := γName 6) (b := pushG) (by simp [n2]) hsm
    rw [e2] at e5
    simp [sameC, hnl, -ev_for, e5, n1, n2]
  · exact ⟨Nat.le_trans hf.le f2.le, fun i hi _ => by rw [f2.old i (Nat.lt_of_lt_of_le hi hf.le) (by simp; omega)]; exact hf.old i hi (by simp)⟩
end
theorem same_loop {M : Mem} {s : Src} (hs : s.lk = none) {x0 x1 : Option D} {ps : List (D × D)} {n : Nat} (h : SameP M ps n) : ∀ (ds : List D) (y3 y4 y5 y6 : Option D) (m : Mem), n < ds.length → n < 90000 → Frm [] M m → m[M.length]? = some (.lst (ps.map prD).reverse) →
    ∃ m', forF s (γName 3) sameB ds [x0, x1, some (.ref M.length), y3, y4, y5, y6] m = .rt (.bl true) m' ∧ Frm [] M m' := by
  induction h with
  | nil =>
    intro ds y3 y4 y5 y6 m hn hz hf hm
    cases ds with
    | nil => simp at hn
    | cons dd ds => exact ⟨m, by rw [forF_none hs]; simp [sameB, hm], hf⟩
  | @one d ps n hT ho _ ih =>
    intro ds y3 y4 y5 y6 m hn hz hf hm
    cases ds with
    | nil => simp at hn
    | cons dd ds =>
      obtain ⟨m', e, hf'⟩ := ih ds (some dd) (some d) (some d) y6 (m.set M.length (.lst (ps.map prD).reverse)) (by simpa using hn) (by omega) (hf.set (.inr (Nat.le_refl _))) (get_set hm)
      refine ⟨m', ?_, hf'⟩
      rw [forF_none hs, ev_γName, ev_only]
      show (sameB [x0, x1, some (.ref M.length), some dd, y4, y5, y6] m).turn _ = _
      rw [sameB_pop (k := ps.length) hm (by simp) stack_top, stack_drop, sameC_one hT ho]
      exact e
  | @bl b ps n _ ih =>
    intro ds y3 y4 y5 y6 m hn hz hf hm
    cases ds with
    | nil => simp at hn
    | cons dd ds =>
      obtain ⟨m', e, hf'⟩ := ih ds (some dd) (some (.bl b)) (some (.bl b)) y6 (m.set M.length (.lst (ps.map prD).reverse)) (by simpa using hn) (by omega) (hf.set (.inr (Nat.le_refl _))) (get_set hm)
      refine ⟨m', ?_, hf'⟩
      rw [forF_none hs, ev_γName, ev_only]
      show (sameB [x0, x1, some (.ref M.length), some dd, y4, y5, y6] m).turn _ = _
      rw [sameB_pop (k := ps.length) hm (by simp) stack_top, stack_drop, sameC_bl]
      exact e
  | @tup xs ys ps n hxy hp ih =>
    intro ds y3 y4 y5 y6 m hn hz hf hm
    cases ds with
    | nil => simp at hn
    | cons dd ds =>
      have hlen := sameP_len hp
      simp only [List.length_append, List.length_reverse, List.length_zip, hxy, Nat.min_self] at hlen
      obtain ⟨z6, m2, e2, f2, g2⟩ := sameC_tup (M := M) (x0 := x0) (x1 := x1) (dd := dd) (y6 := y6) (m := m.set M.length (.lst (ps.map prD).reverse)) (xs := xs) (ys := ys) hxy (get_set hm) (by simp; omega) (hf.set (.inr (Nat.le_refl _)))
      rw [stack_push] at g2
      obtain ⟨m', e, hf'⟩ := ih ds (some dd) (some (.tup xs)) (some (.tup ys)) z6 m2 (by simpa using hn) (by omega) f2 g2
      refine ⟨m', ?_, hf'⟩
      rw [forF_none hs, ev_γName, ev_only]
      show (sameB [x0, x1, some (.ref M.length), some dd, y4, y5, y6] m).turn _ = _
      rw [sameB_pop (k := ps.length) hm (by simp) stack_top, stack_drop, e2]
      exact e
  | @lst j k xs ys ps n hj hk hxy hp ih =>
    intro ds y3 y4 y5 y6 m hn hz hf hm
    cases ds with
    | nil => simp at hn
    | cons dd ds =>
      have hlen := sameP_len hp
      simp only [List.length_append, List.length_reverse, List.length_zip, hxy, Nat.min_self] at hlen
      obtain ⟨z6, m2, e2, f2, g2⟩ := sameC_lst (M := M) (x0 := x0) (x1 := x1) (dd := dd) (y6 := y6) (m := m.set M.length (.lst (ps.map prD).reverse)) (xs := xs) (ys := ys) hj hk hxy (get_set hm) (by simp; omega) (hf.set (.inr (Nat.le_refl _)))
      rw [stack_push] at g2
      obtain ⟨m', e, hf'⟩ := ih ds (some dd) (some (.ref j)) (some (.ref k)) z6 m2 (by simpa using hn) (by omega) f2 g2
      refine ⟨m', ?_, hf'⟩
      rw [forF_none hs, ev_γName, ev_only]
      show (sameB [x0, x1, some (.ref M.length), some dd, y4, y5, y6] m).turn _ = _
      rw [sameB_pop (k := ps.length) hm (by simp) stack_top, stack_drop, e2]
      exact e
theorem same_ok {M : Mem} {a b : D} {n : Nat} (h : SameP M [(a, b)] n) (hn : n < 90000) : ∃ m', runB 2 7 sameG [a, b] M = .ok (.bl true) m' ∧ Frm [] M m' := by
  obtain ⟨m', e, f⟩ := same_loop (M := M) (s := ⟨rngD 0 1 200000, none⟩) rfl (x0 := some a) (x1 := some b) h (rngD 0 1 200000) none none none none (M ++ [.lst [.tup [a, b]]]) (by rw [rngD_len]; omega) hn Frm.app get_new
  refine ⟨m', ?_, f⟩
  have s2 : smallI 200000 = true := by decide
  simp [runB, sameG, envD, s2, e]
/-- .. of one thing and itself -/
theorem same_self {M : Mem} {a : D} (h : a.okS = true) (hn : a.nodes < 90000) : ∃ m', runB 2 7 sameG [a, a] M = .ok (.bl true) m' ∧ Frm [] M m' := same_ok (same_d a [] 0 h .nil) (by omega)
end DL
/-! The laws' own names. -/
namespace DL
open PySem PySem.Spec L2
/-- a draw: some number below what is asked -/
structure Next (F : List D → Mem → R D) : Prop where
  ok : ∀ {m : Mem} {l p : Nat} {many : Int}, Drw m l p → 0 < many → ∃ j m', F [.ref l, .int many] m = .ok (.int j) m' ∧ 0 ≤ j ∧ j < many ∧ Frm [l] m m' ∧ Drw m' l p ∧ m'.length = m.length
variable {F : List D → Mem → R D}
def nmIn (F : List D → Mem → R D) : DSt := (dSet 6 (dBin opAdd (dVar 6) (dBin opIxM (dVar 3) (dApp F [] (dCons (dVar 0) (dCons (dC (.int 26)) dNil))))))
def nmOut (F : List D → Mem → R D) : DSt := (dSeq (dSet 6 (dBin opIxM (dVar 3) (dApp F [] (dCons (dVar 0) (dCons (dC (.int 26)) dNil)))))
  (dSeq (dFor (dRange1 (dBin opIxM (dLst (dCons (dC (.int 0)) (dCons (dC (.int 0)) (dCons (dC (.int 1)) (dCons (dC (.int 2)) (dCons (dC (.int 5)) dNil)))))) (dApp F [] (dCons (dVar 0) (dCons (dC (.int 5)) dNil))))) (γName 7) (nmIn F))
  (dSeq (dSet 6 (dBin opAdd (dVar 6) (dCall (fn1 opStr) (dCons (dVar 5) dNil))))
  (dSeq (dSet 8 (dBin opIxM (dVar 2) (dApp F [] (dCons (dVar 0) (dCons (dC (.int 20)) dNil)))))
  (dSeq (dIfS (dAnd (dTest (dBin opEq (dApp F [] (dCons (dVar 0) (dCons (dC (.int 3)) dNil))) (dC (.int 0)))) (dTest (dBin opNotIn (dVar 8) (dVar 4)))) (dSet 6 (dVar 8)) dNext)
  (dDrop (dMt isLst mAppend (dVar 4) (dCons (dVar 6) dNil))))))))
def someD : List D := [.str "own", .str "up", .str "in", .str "on", .str "off", .str "view", .str "edit", .str "doc", .str "team", .str "kind", .str "stored", .str "relation", .str "copy", .str "name", .str "norings", .str "users", .str "al", .str "z9", .str "a", .str "ann"]
def someDs : DFs := (dCons (dC (.str "own")) (dCons (dC (.str "up")) (dCons (dC (.str "in")) (dCons (dC (.str "on")) (dCons (dC (.str "off")) (dCons (dC (.str "view")) (dCons (dC (.str "edit")) (dCons (dC (.str "doc")) (dCons (dC (.str "team")) (dCons (dC (.str "kind")) (dCons (dC (.str "stored")) (dCons (dC (.str "relation")) (dCons (dC (.str "copy")) (dCons (dC (.str "name")) (dCons (dC (.str "norings")) (dCons (dC (.str "users")) (dCons (dC (.str "al")) (dCons (dC (.str "z9")) (dCons (dC (.str "a")) (dCons (dC (.str "ann")) dNil))))))))))))))))))))
def leftS : Str := "qwertzuiopasdfghjklyxcvbnm"
def namesG (F : List D → Mem → R D) : DSt := (dSeq (dSet 2 (dLst someDs))
  (dSeq (dSet 3 (dC (.str leftS)))
  (dSeq (dSet 4 (dLst dNil))
  (dSeq (dFor (dRange1 (dVar 1)) (γName 5) (nmOut F))
  (dRet (dVar 4))))))
theorem some_ev (ρ : En) (m : Mem) : someDs ρ m = .ok someD m := rfl
theorem ev_ix_s {z : Str} {i : Int} {c : Nat} {m : Mem} (hz : z.length ≤ sizeLine) (h : atI z.cps.toList i = some c) : opIxM (.str z) (.int i) m = .ok (.str ⟨#[c]⟩) m := by
  show opIx (.str z) (.int i) m = _
  unfold opIx
  simp only [hz, if_true, h]
/-- a text that is short and may be compared -/
def NmOk (x : Str) : Prop := PyData.strOk x = true ∧ x.length ≤ 1000
theorem strOk_app {x y : Str} (hx : PyData.strOk x = true) (hy : PyData.strOk y = true) : PyData.strOk (x ++ y) = true := by
  have e : (x ++ y).cps = x.cps ++ y.cps := rfl
  unfold PyData.strOk at hx hy ⊢
  rw [e, Array.all_append, hx, hy]
  rfl
theorem len_app (x y : Str) : (x ++ y).length = x.length + y.length := by
  have e : (x ++ y).cps = x.cps ++ y.cps := rfl
  show (x ++ y).cps.size = x.cps.size + y.cps.size
  rw [e, Array.size_append]
theorem left_ix {j : Int} (h0 : 0 ≤ j) (h : j < 26) : ∃ c : Nat, (∀ m, opIxM (.str leftS) (.int j) m = .ok (.str ⟨#[c]⟩) m) ∧ 97 ≤ c ∧ c ≤ 122 := by
  have hl : leftS.cps.toList.length = 26 := by decide +kernel
  have hall : (leftS.cps.toList.all fun c => decide (97 ≤ c ∧ c ≤ 122)) = true := by decide +kernel
  have hj : j.toNat < leftS.cps.toList.length := by omega
  have hz : leftS.length ≤ sizeLine := by decide +kernel
  refine ⟨leftS.cps.toList[j.toNat], fun m => ev_ix_s hz (at_int h0 (List.getElem?_eq_getElem hj)), ?_⟩
  rw [List.all_eq_true] at hall
  exact of_decide_eq_true (hall _ (List.getElem_mem hj))
theorem one_ok {c : Nat} (h : c ≤ 122) : PyData.strOk ⟨#[c]⟩ = true ∧ (⟨#[c]⟩ : Str).length = 1 := by
  refine ⟨?_, rfl⟩
  unfold PyData.strOk
  simp
  omega
/-- letters put behind -/
theorem nm_in (hF : Next F) {p : Nat} {l : Nat} {m0 : Mem} (hl : l < m0.length) {x1 x2 x4 x5 x8 : Option D} {s : Src} (hs : s.lk = none) : ∀ (ds : List D) (wd : Str) (y7 : Option D) (m : Mem), NmOk wd → wd.length + ds.length ≤ 900 → Drw m l p → Frm [l] m0 m →
    ∃ wd' z7 m', forF s (γName 7) (nmIn F) ds [some (.ref l), x1, x2, some (.str leftS), x4, x5, some (.str wd), y7, x8] m = .nx [some (.ref l), x1, x2, some (.str leftS), x4, x5, some (.str wd'), z7, x8] m' ∧ NmOk wd' ∧ wd'.length = wd.length + ds.length ∧ Drw m' l p ∧ Frm [l] m m'
  | [], wd, y7, m, h, _, hd, hf => ⟨wd, y7, m, by simp [forF, Src.ok, hs], h, rfl, hd, Frm.refl⟩
  | dd :: ds, wd, y7, m, h, hz, hd, hf => by
    obtain ⟨j, m1, e1, j0, j1, f1, d1, _⟩ := hF.ok hd (many := 26) (by decide)
    obtain ⟨c, e2, c1, c2⟩ := left_ix j0 j1
    obtain ⟨o1, o2⟩ := one_ok c2
    have hlen : (wd ++ (⟨#[c]⟩ : Str)).length = wd.length + 1 := by rw [len_app, o2]
    have hsz : wd.length + (⟨#[c]⟩ : Str).length ≤ sizeLine := by rw [o2]; exact sz_le (by omega)
    obtain ⟨wd', z7, m', e3, g1, g2, g3, g4⟩ := nm_in hF hl hs ds (wd ++ ⟨#[c]⟩) (some dd) m1 ⟨strOk_app h.1 o1, by rw [hlen]; simp at hz; omega⟩ (by rw [hlen]; simp at hz; omega) d1 (hf.trans f1)
    refine ⟨wd', z7, m', ?_, g1, by rw [g2, hlen]; simp; omega, g3, f1.trans g4⟩
    rw [forF_none hs, ev_γName, ev_only]
    have e4 : nmIn F [some (.ref l), x1, x2, some (.str leftS), x4, x5, some (.str wd), some dd, x8] m = .nx [some (.ref l), x1, x2, some (.str leftS), x4, x5, some (.str (wd ++ ⟨#[c]⟩)), some dd, x8] m1 := by
      simp [nmIn, e1, e2, hsz]
    show (nmIn F [some (.ref l), x1, x2, some (.str leftS), x4, x5, some (.str wd), some dd, x8] m).turn _ = _
    rw [e4]
    exact e3
/-! membership -/
theorem any_eqv {x : D} {p : PyData} (ox : x.okS = true) (hp : x.py = some p) : ∀ (xs : List D) (ps : List PyData), D.okSs xs = true → D.pys xs = some ps → (ps.any fun z => PyData.eqv z p) = decide (x ∈ xs)
  | [], ps, _, h => by cases h; simp
  | y :: ys, ps, o, h => by
    obtain ⟨o1, o2⟩ := okSs_cons o
    obtain ⟨q, e1, _⟩ := okS_py y o1
    obtain ⟨qs, e2, _⟩ := okSs_py ys o2
    simp only [D.pys, e1, e2, Option.some.injEq] at h
    subst h
    rw [List.any_cons, any_eqv ox hp ys qs o2 e2, py_eqv y x q p o1 ox e1 hp]
    by_cases h1 : y = x
    · simp [h1]
    · have h2 : ¬ x = y := fun z => h1 z.symm
      simp [h1, h2]
theorem in_list_ok {neg : Bool} {x : D} {xs : List D} {r : Nat} {m : Mem} (ox : x.okS = true) (dx : x.dep ≤ 64) (oxs : D.okSs xs = true) (ds : D.deps xs ≤ 60) (hm : m[r]? = some (.lst xs)) : opInB neg x (.ref r) m = .ok (.bl (decide (x ∈ xs) != neg)) m := by
  obtain ⟨p, e1, c1, d1⟩ := okS_py x ox
  obtain ⟨ps, e2, c2, d2⟩ := okSs_py xs oxs
  have s1 : SeqAt.shaped p = true := by simp [SeqAt.shaped, c1, d1, dx]
  have s2 : SeqAt.shaped (.list ps) = true := by
    have h1 : PyData.canLay0 (.list ps) = true := by simp only [PyData.canLay0, c2]
    have h2 : PyData.depth (.list ps) ≤ 64 := by simp only [PyData.depth, d2]; omega
    simp [SeqAt.shaped, h1, h2]
  have q1 : pyM m x = some p := by unfold pyM; rw [ok_noref ox, e1]
  have q2 : pyM m (.ref r) = some (.list ps) := by
    unfold pyM
    have : seqOf m (.ref r) = some xs := by rw [ev_seq_r, hm]
    rw [this]
    show Option.map PyData.list (D.pys xs) = _
    rw [e2]
    rfl
  have e3 : opInB neg x (.ref r) m = inData neg x (.ref r) m := by
    unfold opInB
    simp [hm]
  rw [e3]
  unfold inData
  rw [q1, q2]
  simp only [s1, s2, Bool.and_self, if_true]
  rw [any_eqv ox e1 xs ps oxs e2]
theorem okSs_map {ns : List Str} (h : ∀ x ∈ ns, PyData.strOk x = true) : D.okSs (ns.map .str) = true := by
  induction ns with
  | nil => rfl
  | cons x ns ih =>
    have h1 : D.okS (.str x) = true := h x List.mem_cons_self
    simp only [List.map_cons, D.okSs, h1, ih fun y hy => h y (List.mem_cons_of_mem _ hy), Bool.and_self]
theorem deps_map {ns : List Str} : D.deps (ns.map .str) = 0 := by
  induction ns with
  | nil => rfl
  | cons x ns ih => simp [D.deps, D.dep, ih]
/-! numbers as texts -/
theorem str_nums : ((List.range 100).all fun i => PyData.strOk (toString ((i : Nat) : Int)) && decide ((Str.ofString (toString ((i : Nat) : Int))).length ≤ 2)) = true := by decide +kernel
theorem str_num {i : Nat} (h : i < 100) : PyData.strOk (toString ((i : Nat) : Int)) = true ∧ (Str.ofString (toString ((i : Nat) : Int))).length ≤ 2 := by
  have := List.all_eq_true.mp str_nums i (List.mem_range.mpr h)
  rw [Bool.and_eq_true] at this
  exact ⟨this.1, of_decide_eq_true this.2⟩
theorem some_at {j : Int} (h0 : 0 ≤ j) (h : j < 20) : ∃ x : Str, atI someD j = some (.str x) ∧ NmOk x := by
  have hl : someD.length = 20 := rfl
  have hall : (someD.all fun d => match d with | .str x => PyData.strOk x && decide (x.length ≤ 1000) | _ => false) = true := by decide +kernel
  have hj : j.toNat < someD.length := by omega
  rw [List.all_eq_true] at hall
  have h1 := hall _ (List.getElem_mem hj)
  have h2 := at_int (xs := someD) h0 (List.getElem?_eq_getElem hj)
  generalize someD[j.toNat] = d at h1 h2
  cases d with
  | str x =>
    simp only [Bool.and_eq_true] at h1
    exact ⟨x, h2, h1.1, of_decide_eq_true h1.2⟩
  | _ => cases h1
theorem pick5 {j : Int} (h0 : 0 ≤ j) (h : j < 5) : ∃ k : Nat, k ≤ 5 ∧ atI [D.int 0, .int 0, .int 1, .int 2, .int 5] j = some (.int k) := by
  have h1 : j = 0 ∨ j = 1 ∨ j = 2 ∨ j = 3 ∨ j = 4 := by omega
  rcases h1 with h1 | h1 | h1 | h1 | h1 <;> subst h1
  · exact ⟨0, by decide, rfl⟩
  · exact ⟨0, by decide, rfl⟩
  · exact ⟨1, by decide, rfl⟩
  · exact ⟨2, by decide, rfl⟩
  · exact ⟨5, by decide, rfl⟩
/-- one name more -/
theorem nm_out (hF : Next F) {p l r s1 : Nat} {i : Nat} (hi : i < 100) {x1 y6 y7 y8 : Option D} {ns : List Str} {m : Mem} (hd : Drw m l p) (hs1 : m[s1]? = some (.lst someD)) (hr : m[r]? = some (.lst (ns.map .str))) (hlr : l ≠ r) (hl1 : l ≠ s1) (hr1 : r ≠ s1) (hrp : r ≠ p) (hn : ∀ x ∈ ns, NmOk x) (hz : ns.length < 1000) :
    ∃ x z7 z8 z6 m', nmOut F [some (.ref l), x1, some (.ref s1), some (.str leftS), some (.ref r), some (.int i), y6, y7, y8] m = .nx [some (.ref l), x1, some (.ref s1), some (.str leftS), some (.ref r), some (.int i), z6, z7, z8] m' ∧ Drw m' l p ∧ m'[s1]? = some (.lst someD) ∧ m'[r]? = some (.lst ((ns ++ [x]).map .str)) ∧ NmOk x ∧ Frm [l, r] m m' := by
  have ll : l < m.length := by obtain ⟨_, _, _, h, _⟩ := hd; exact lt_of_get h
  obtain ⟨j1, m1, e1, a1, b1, f1, d1, _⟩ := hF.ok hd (many := 26) (by decide)
  obtain ⟨c, e2, c1, c2⟩ := left_ix a1 b1
  obtain ⟨o1, o2⟩ := one_ok c2
  have d1' : Drw (m1 ++ [.lst [D.int 0, .int 0, .int 1, .int 2, .int 5]]) l p := d1.frm (ls := []) Frm.app (by simp) (by simp)
  obtain ⟨j2, m2, e3, a2, b2, f2, d2, _⟩ := hF.ok d1' (many := 5) (by decide)
  obtain ⟨k, hk, e4⟩ := pick5 a2 b2
  have ll1 : l < m1.length := Nat.lt_of_lt_of_le ll f1.le
  have g4 : m2[m1.length]? = some (.lst [D.int 0, .int 0, .int 1, .int 2, .int 5]) := f2.get get_new (by simp; omega)
  have hk2 : smallI (k : Int) = true := small_len (by omega)
  obtain ⟨wd, z7, m3, e5, w1, w2, d3, f3⟩ := nm_in hF (m0 := m2) (p := p) (l := l) (Nat.lt_of_lt_of_le ll1 (Nat.le_trans (by simp) f2.le)) (x1 := x1) (x2 := some (.ref s1)) (x4 := some (.ref r)) (x5 := some (.int i)) (x8 := y8) (s := ⟨rngD 0 1 k, none⟩) rfl (rngD 0 1 k) ⟨#[c]⟩ y7 m2 ⟨o1, by rw [o2]; decide⟩ (by rw [o2, rngD_len]; omega) d2 Frm.refl
  rw [rngD_len, o2] at w2
  obtain ⟨n1, n2⟩ := str_num hi
  have nl : wd.length + (Str.ofString (toString ((i : Nat) : Int))).length ≤ sizeLine := sz_le (by omega)
  obtain ⟨j3, m4, e6, a3, b3, f4, d4, _⟩ := hF.ok d3 (many := 20) (by decide)
  obtain ⟨ot, e7, ok7⟩ := some_at a3 b3
  obtain ⟨j5, m5, e8, a5, b5, f5, d5, _⟩ := hF.ok d4 (many := 3) (by decide)
  have F01 : Frm [l] m m2 := (f1.more.trans f2)
  have F02 : Frm [l] m m4 := (F01.trans f3).trans f4
  have F03 : Frm [l] m m5 := F02.trans f5
  have q1 : m4[s1]? = some (.lst someD) := F02.get hs1 (by simp; omega)
  have q2 : m5[r]? = some (.lst (ns.map .str)) := F03.get hr (by simp; omega)
  have q3 : m5[s1]? = some (.lst someD) := F03.get hs1 (by simp; omega)
  have e9 : opInB true (.str ot) (.ref r) m5 = .ok (.bl (decide (D.str ot ∈ ns.map .str) != true)) m5 := in_list_ok ok7.1 (Nat.zero_le _) (okSs_map fun x hx => (hn x hx).1) (by rw [deps_map]; omega) q2
  have lg : ((i : Nat) : Int).natAbs.log2 < 1920 := by
    rw [Int.natAbs_natCast]
    have : i.log2 ≤ i := Nat.log2_le_self i
    omega
  have t0 : dSet 6 (dBin opIxM (dVar 3) (dApp F [] (dCons (dVar 0) (dCons (dC (.int 26)) dNil)))) [some (.ref l), x1, some (.ref s1), some (.str leftS), some (.ref r), some (.int i), y6, y7, y8] m = .nx [some (.ref l), x1, some (.ref s1), some (.str leftS), some (.ref r), some (.int i), some (.str ⟨#[c]⟩), y7, y8] m1 := by
    simp [e1, e2]
  have t1 : (dBin opIxM (dLst (dCons (dC (.int 0)) (dCons (dC (.int 0)) (dCons (dC (.int 1)) (dCons (dC (.int 2)) (dCons (dC (.int 5)) dNil)))))) (dApp F [] (dCons (dVar 0) (dCons (dC (.int 5)) dNil)))) [some (.ref l), x1, some (.ref s1), some (.str leftS), some (.ref r), some (.int i), some (.str ⟨#[c]⟩), y7, y8] m1 = .ok (.int k) m2 := by
    have z5 : 5 ≤ sizeLine := by decide
    simp [z5, e3, ev_ix_l g4, e4]
  have t2 := for_range1 (γ := γName 7) (b := nmIn F) t1 hk2
  rw [e5] at t2
  have t3 : dSet 6 (dBin opAdd (dVar 6) (dCall (fn1 opStr) (dCons (dVar 5) dNil))) [some (.ref l), x1, some (.ref s1), some (.str leftS), some (.ref r), some (.int i), some (.str wd), z7, y8] m3 = .nx [some (.ref l), x1, some (.ref s1), some (.str leftS), some (.ref r), some (.int i), some (.str (wd ++ Str.ofString (toString ((i : Nat) : Int)))), z7, y8] m3 := by
    simp only [ev_set, ev_bin, ev_var, ev_call, ev_cons, ev_nil, ev_bind, ev_fn1, ev_str_i, lg, if_true, ev_goes, List.getElem?_cons_succ, List.getElem?_cons_zero, ev_add_s]
    rw [if_pos nl]
    rfl
  have t4 : dSet 8 (dBin opIxM (dVar 2) (dApp F [] (dCons (dVar 0) (dCons (dC (.int 20)) dNil)))) [some (.ref l), x1, some (.ref s1), some (.str leftS), some (.ref r), some (.int i), some (.str (wd ++ Str.ofString (toString ((i : Nat) : Int)))), z7, y8] m3 = .nx [some (.ref l), x1, some (.ref s1), some (.str leftS), some (.ref r), some (.int i), some (.str (wd ++ Str.ofString (toString ((i : Nat) : Int)))), z7, some (.str ot)] m4 := by
    simp [e6, ev_ix_l q1, e7]
  have okw : NmOk (wd ++ Str.ofString (toString ((i : Nat) : Int))) := ⟨strOk_app w1.1 n1, by rw [len_app]; omega⟩
  have app : ∀ x : Str, dDrop (dMt isLst mAppend (dVar 4) (dCons (dVar 6) dNil)) [some (.ref l), x1, some (.ref s1), some (.str leftS), some (.ref r), some (.int i), some (.str x), z7, some (.str ot)] m5 = .nx [some (.ref l), x1, some (.ref s1), some (.str leftS), some (.ref r), some (.int i), some (.str x), z7, some (.str ot)] (m5.set r (.lst ((ns ++ [x]).map .str))) := fun x => by
    have : (ns.map D.str).length < sizeLine := sz63 (by simp; omega)
    have this' : ns.length < sizeLine := by simpa using this
    simp [q2, this']
  have fin : ∀ x : Str, NmOk x → Drw (m5.set r (.lst ((ns ++ [x]).map .str))) l p ∧ (m5.set r (.lst ((ns ++ [x]).map .str)))[s1]? = some (.lst someD) ∧ (m5.set r (.lst ((ns ++ [x]).map .str)))[r]? = some (.lst ((ns ++ [x]).map .str)) ∧ NmOk x ∧ Frm [l, r] m (m5.set r (.lst ((ns ++ [x]).map .str))) := fun x hx =>
    ⟨d5.frm (ls := [r]) (Frm.refl.set (.inl (by simp))) (by simp; omega) (by simp; omega), get_set_ne q3 hr1, get_set q2, hx, (F03.mono (by simp)).set (.inl (by simp))⟩
  unfold nmOut
  rw [ev_seq, t0, ev_thn_nx, ev_seq, t2, ev_thn_nx, ev_seq, t3, ev_thn_nx, ev_seq, t4, ev_thn_nx, ev_seq]
  by_cases h3 : j5 = 0
  · by_cases hin : D.str ot ∈ ns.map .str
    · have t5 : (dIfS (dAnd (dTest (dBin opEq (dApp F [] (dCons (dVar 0) (dCons (dC (.int 3)) dNil))) (dC (.int 0)))) (dTest (dBin opNotIn (dVar 8) (dVar 4)))) (dSet 6 (dVar 8)) dNext) [some (.ref l), x1, some (.ref s1), some (.str leftS), some (.ref r), some (.int i), some (.str (wd ++ Str.ofString (toString ((i : Nat) : Int)))), z7, some (.str ot)] m4 = .nx [some (.ref l), x1, some (.ref s1), some (.str leftS), some (.ref r), some (.int i), some (.str (wd ++ Str.ofString (toString ((i : Nat) : Int)))), z7, some (.str ot)] m5 := by
        rw [decide_eq_true hin] at e9
        simp [e8, h3, e9]
      rw [t5, ev_thn_nx, app]
      exact ⟨_, _, _, _, _, rfl, fin _ okw⟩
    · have t5 : (dIfS (dAnd (dTest (dBin opEq (dApp F [] (dCons (dVar 0) (dCons (dC (.int 3)) dNil))) (dC (.int 0)))) (dTest (dBin opNotIn (dVar 8) (dVar 4)))) (dSet 6 (dVar 8)) dNext) [some (.ref l), x1, some (.ref s1), some (.str leftS), some (.ref r), some (.int i), some (.str (wd ++ Str.ofString (toString ((i : Nat) : Int)))), z7, some (.str ot)] m4 = .nx [some (.ref l), x1, some (.ref s1), some (.str leftS), some (.ref r), some (.int i), some (.str ot), z7, some (.str ot)] m5 := by
        rw [decide_eq_false hin] at e9
        simp [e8, h3, e9]
      rw [t5, ev_thn_nx, app]
      exact ⟨_, _, _, _, _, rfl, fin _ ok7⟩
  · have t5 : (dIfS (dAnd (dTest (dBin opEq (dApp F [] (dCons (dVar 0) (dCons (dC (.int 3)) dNil))) (dC (.int 0)))) (dTest (dBin opNotIn (dVar 8) (dVar 4)))) (dSet 6 (dVar 8)) dNext) [some (.ref l), x1, some (.ref s1), some (.str leftS), some (.ref r), some (.int i), some (.str (wd ++ Str.ofString (toString ((i : Nat) : Int)))), z7, some (.str ot)] m4 = .nx [some (.ref l), x1, some (.ref s1), some (.str leftS), some (.ref r), some (.int i), some (.str (wd ++ Str.ofString (toString ((i : Nat) : Int)))), z7, some (.str ot)] m5 := by
      simp [e8, h3]
    rw [t5, ev_thn_nx, app]
    exact ⟨_, _, _, _, _, rfl, fin _ okw⟩
theorem run_eq {np N : Nat} {g : DSt} {ds : List D} {m : Mem} (h : ds.length = np) : runB np N g ds m = (g (envD N ds) m).val := by
  unfold runB
  rw [if_pos h]
theorem names_loop (hF : Next F) {p l r s1 : Nat} {x1 : Option D} {s : Src} (hs : s.lk = none) {M : Mem} (hlM : l < M.length) (hpM : p < M.length) (hr1M : M.length ≤ r) (hlr : l ≠ r) (hl1 : l ≠ s1) (hr1 : r ≠ s1) (hrp : r ≠ p) : ∀ (k i : Nat) (y5 y6 y7 y8 : Option D) (ns : List Str) (m : Mem), i + k ≤ 100 → Drw m l p → m[s1]? = some (.lst someD) → m[r]? = some (.lst (ns.map .str)) → (∀ x ∈ ns, NmOk x) → ns.length = i → Frm [l] M m →
    ∃ (z5 z6 z7 z8 : Option D) (ns' : List Str) (m' : Mem), forF s (γName 5) (nmOut F) ((List.range' i k).map fun j => .int (j : Nat)) [some (.ref l), x1, some (.ref s1), some (.str leftS), some (.ref r), y5, y6, y7, y8] m = .nx [some (.ref l), x1, some (.ref s1), some (.str leftS), some (.ref r), z5, z6, z7, z8] m' ∧ Drw m' l p ∧ m'[r]? = some (.lst (ns'.map .str)) ∧ (∀ x ∈ ns', NmOk x) ∧ ns'.length = i + k ∧ Frm [l] M m'
  | 0, i, y5, y6, y7, y8, ns, m, _, hd, h1, h2, h3, h4, hf => ⟨y5, y6, y7, y8, ns, m, by simp [forF, Src.ok, hs], hd, h2, h3, by omega, hf⟩
  | k + 1, i, y5, y6, y7, y8, ns, m, hk, hd, h1, h2, h3, h4, hf => by
    obtain ⟨x, z7, z8, z6, m1, e1, d1, g1, g2, g3, f1⟩ := nm_out hF (i := i) (by omega) (x1 := x1) (y6 := y6) (y7 := y7) (y8 := y8) hd h1 h2 hlr hl1 hr1 hrp h3 (by omega)
    have hf1 : Frm [l] M m1 := ⟨Nat.le_trans hf.le f1.le, fun j hj n => by
      have : j ∉ [l, r] := by simp at n ⊢; omega
      rw [f1.old j (Nat.lt_of_lt_of_le hj hf.le) this]; exact hf.old j hj n⟩
    obtain ⟨w5, w6, w7, w8, ns', m', e2, d2, g4, g5, g6, f2⟩ := names_loop hF hs hlM hpM hr1M hlr hl1 hr1 hrp (x1 := x1) k (i + 1) (some (.int i)) z6 z7 z8 (ns ++ [x]) m1 (by omega) d1 g1 g2 (fun y hy => by
      rcases List.mem_append.mp hy with hy | hy
      · exact h3 y hy
      · rw [List.mem_singleton.mp hy]; exact g3) (by simp [h4]) hf1
    refine ⟨w5, w6, w7, w8, ns', m', ?_, d2, g4, g5, by omega, f2⟩
    rw [List.range'_succ, List.map_cons, forF_none hs, ev_γName, ev_only]
    show (nmOut F [some (.ref l), x1, some (.ref s1), some (.str leftS), some (.ref r), some (.int i), y6, y7, y8] m).turn _ = _
    rw [e1]
    exact e2
theorem names_ok (hF : Next F) {m : Mem} {l p many : Nat} (hd : Drw m l p) (hm : many ≤ 100) : ∃ (r : Nat) (ns : List Str) (m' : Mem), runB 2 9 (namesG F) [.ref l, .int many] m = .ok (.ref r) m' ∧ Drw m' l p ∧ m'[r]? = some (.lst (ns.map .str)) ∧ (∀ x ∈ ns, NmOk x) ∧ ns.length = many ∧ m.length ≤ r ∧ Frm [l] m m' := by
  have ll : l < m.length := by obtain ⟨_, _, _, h, _⟩ := id hd; exact lt_of_get h
  have lp : p < m.length := by obtain ⟨_, _, _, _, _, _, _, h⟩ := id hd; exact lt_of_get h
  have hsm : smallI (many : Int) = true := small_len (by omega)
  obtain ⟨z5, z6, z7, z8, ns, m', e, d1, g1, g2, g3, f1⟩ := names_loop hF (s := ⟨rngD 0 1 many, none⟩) rfl (M := m) (l := l) (p := p) (r := m.length + 1) (s1 := m.length) (x1 := some (.int many)) ll lp (by omega) (by omega) (by omega) (by omega) (by omega) many 0 none none none none [] (m ++ [.lst someD] ++ [.lst []]) (by omega) ((hd.frm (ls := []) Frm.app (by simp) (by simp)).frm (ls := []) Frm.app (by simp) (by simp)) (get_old get_new) (by rw [show m.length + 1 = (m ++ [MO.lst someD]).length by simp]; exact get_new) (by simp) rfl (Frm.app.more)
  rw [← rngD_range'] at e
  refine ⟨m.length + 1, ns, m', ?_, d1, g1, g2, by omega, by omega, f1⟩
  have t0 : dSet 2 (dLst someDs) [some (.ref l), some (.int many), none, none, none, none, none, none, none] m = .nx [some (.ref l), some (.int many), some (.ref m.length), none, none, none, none, none, none] (m ++ [.lst someD]) := by
    have z : someD.length ≤ sizeLine := by decide
    rw [ev_set, ev_lst, some_ev, ev_bind, if_pos z, ev_goes]
    rfl
  have t1 : dSet 4 (dLst dNil) [some (.ref l), some (.int many), some (.ref m.length), some (.str leftS), none, none, none, none, none] (m ++ [.lst someD]) = .nx [some (.ref l), some (.int many), some (.ref m.length), some (.str leftS), some (.ref (m.length + 1)), none, none, none, none] (m ++ [.lst someD] ++ [.lst []]) := by
    simp
  have t2 := for_range1 (f := dVar 1) (ρ := [some (.ref l), some (.int many), some (.ref m.length), some (.str leftS), some (.ref (m.length + 1)), none, none, none, none]) (m := m ++ [.lst someD] ++ [.lst []]) (m' := m ++ [.lst someD] ++ [.lst []]) (k := many) (γ := γName 5) (b := nmOut F) (by simp) hsm
  rw [e] at t2
  rw [run_eq (np := 2) (show [D.ref l, D.int (many : Int)].length = 2 from rfl)]
  show (namesG F [some (.ref l), some (.int many), none, none, none, none, none, none, none] m).val = _
  unfold namesG
  rw [ev_seq, t0, ev_thn_nx, ev_seq]
  rw [ev_set, ev_C, ev_goes, ev_thn_nx, ev_seq]
  simp only [List.set_cons_succ, List.set_cons_zero]
  rw [t1, ev_thn_nx, ev_seq, t2, ev_thn_nx]
  rfl
end DL
/-! Rules as data: their parts. -/
namespace DL
open PySem PySem.Spec L2
theorem in_tup_ok {neg : Bool} {x : D} {xs : List D} {m : Mem} (ox : x.okS = true) (dx : x.dep ≤ 64) (oxs : D.okSs xs = true) (ds : D.deps xs ≤ 60) : opInB neg x (.tup xs) m = .ok (.bl (decide (x ∈ xs) != neg)) m := by
  obtain ⟨p, e1, c1, d1⟩ := okS_py x ox
  obtain ⟨ps, e2, c2, d2⟩ := okSs_py xs oxs
  have s1 : SeqAt.shaped p = true := by simp [SeqAt.shaped, c1, d1, dx]
  have s2 : SeqAt.shaped (.tuple ps) = true := by
    have h1 : PyData.canLay0 (.tuple ps) = true := by simp only [PyData.canLay0, c2]
    have h2 : PyData.depth (.tuple ps) ≤ 64 := by simp only [PyData.depth, d2]; omega
    simp [SeqAt.shaped, h1, h2]
  have q1 : pyM m x = some p := by unfold pyM; rw [ok_noref ox, e1]
  have q2 : pyM m (.tup xs) = some (.tuple ps) := by
    show (D.tup xs).py = _
    simp only [D.py, e2, Option.map_some]
  have e3 : opInB neg x (.tup xs) m = inData neg x (.tup xs) m := rfl
  rw [e3]
  unfold inData
  rw [q1, q2]
  simp only [s1, s2, Bool.and_self, if_true]
  rw [any_eqv ox e1 xs ps oxs e2]
mutual
/-- a rule -/
inductive RuleOk : D → Prop where
  | leaf2 {w x : Str} : (w = "direct" ∨ w = "same") → PyData.strOk x = true → RuleOk (.tup [.str w, .str x])
  | leaf3 {x y : Str} : PyData.strOk x = true → PyData.strOk y = true → RuleOk (.tup [.str "by", .str x, .str y])
  | nary {w : Str} {xs : List D} : (w = "or" ∨ w = "and") → RulesOk xs → RuleOk (.tup [.str w, .tup xs])
  | but {a b : D} : RuleOk a → RuleOk b → RuleOk (.tup [.str "but", a, b])
inductive RulesOk : List D → Prop where
  | nil : RulesOk []
  | cons {x : D} {xs : List D} : RuleOk x → RulesOk xs → RulesOk (x :: xs)
end
theorem RulesOk.all : ∀ {xs : List D}, RulesOk xs → ∀ x ∈ xs, RuleOk x
  | _, .nil, x, h => by cases h
  | _, .cons a b, x, h => by
    rcases List.mem_cons.mp h with rfl | h
    · exact a
    · exact b.all x h
theorem RulesOk.of : ∀ {xs : List D}, (∀ x ∈ xs, RuleOk x) → RulesOk xs
  | [], _ => .nil
  | x :: xs, h => .cons (h x List.mem_cons_self) (RulesOk.of fun y hy => h y (List.mem_cons_of_mem _ hy))
mutual
theorem RuleOk.okS : ∀ {d : D}, RuleOk d → d.okS = true
  | _, .leaf2 h1 h2 => by
    rcases h1 with rfl | rfl
    · simp only [D.okS, D.okSs, h2, Bool.and_true]; decide +kernel
    · simp only [D.okS, D.okSs, h2, Bool.and_true]; decide +kernel
  | _, .leaf3 h1 h2 => by simp only [D.okS, D.okSs, h1, h2, Bool.and_true]; decide +kernel
  | _, .nary h1 h2 => by
    rcases h1 with rfl | rfl
    · simp only [D.okS, D.okSs, h2.okSs, Bool.and_true]; decide +kernel
    · simp only [D.okS, D.okSs, h2.okSs, Bool.and_true]; decide +kernel
  | _, .but h1 h2 => by simp only [D.okS, D.okSs, h1.okS, h2.okS, Bool.and_true]; decide +kernel
theorem RulesOk.okSs : ∀ {ds : List D}, RulesOk ds → D.okSs ds = true
  | _, .nil => rfl
  | _, .cons h1 h2 => by simp only [D.okSs, h1.okS, h2.okSs, Bool.and_self]
end
def inner : D → List D
  | .tup [.str w, .tup xs] => if w = "or" ∨ w = "and" then xs else []
  | .tup [.str w, a, b] => if w = "but" then [a, b] else []
  | _ => []
theorem inner_all {d : D} (h : RuleOk d) : ∀ x ∈ inner d, RuleOk x := by
  cases h with
  | leaf2 h1 h2 => intro x hx; simp [inner] at hx
  | leaf3 h1 h2 =>
    intro x hx
    have : ¬ ("by" : Str) = "but" := by decide
    simp [inner, this] at hx
  | nary h1 h2 =>
    intro x hx
    simp only [inner, h1, if_true] at hx
    exact h2.all x hx
  | but h1 h2 =>
    intro x hx
    simp only [inner] at hx
    split at hx
    · rename_i hh
      simp at hx
      rcases hx with rfl | rfl
      · exact h1
      · exact h2
    · simp at hx
theorem nodesAll_mem {ds : List D} {x : D} (h : x ∈ ds) : x.nodes ≤ D.nodesAll ds := by
  induction ds with
  | nil => cases h
  | cons d ds ih =>
    simp only [D.nodesAll]
    rcases List.mem_cons.mp h with rfl | h
    · omega
    · have := ih h; omega
theorem inner_nodes {d : D} (h : RuleOk d) : D.nodesAll (inner d) + 1 ≤ d.nodes := by
  cases h with
  | leaf2 h1 h2 => simp [inner, D.nodesAll, D.nodes]
  | leaf3 h1 h2 =>
    have : ¬ ("by" : Str) = "but" := by decide
    simp [inner, this, D.nodesAll, D.nodes]
  | nary h1 h2 => simp only [inner, h1, if_true, D.nodes, D.nodesAll]; omega
  | but h1 h2 =>
    simp only [inner]
    split <;> simp [D.nodes, D.nodesAll] <;> omega
/-- the places and parts of a rule, from the top, from the left -/
def kids (e : List Int × D) : List (List Int × D) := (inner e.2).zipIdx.map fun p => (e.1 ++ [(p.2 : Int)], p.1)
def pre : Nat → List Int × D → List (List Int × D)
  | 0, _ => []
  | n + 1, e => e :: (kids e).flatMap (pre n)
theorem kids_mem {e x : List Int × D} (h : x ∈ kids e) : ∃ (i : Nat), (inner e.2)[i]? = some x.2 ∧ x.1 = e.1 ++ [(i : Int)] := by
  unfold kids at h
  obtain ⟨p, hp, rfl⟩ := List.mem_map.mp h
  exact ⟨p.2, List.mem_zipIdx_iff_getElem?.mp hp, rfl⟩
theorem kids_ok {e : List Int × D} (h : RuleOk e.2) : ∀ x ∈ kids e, RuleOk x.2 ∧ x.2.nodes < e.2.nodes := fun x hx => by
  obtain ⟨i, h1, _⟩ := kids_mem hx
  have h2 := List.mem_of_getElem? h1
  have h3 := nodesAll_mem h2
  have h4 := inner_nodes h
  exact ⟨inner_all h _ h2, by omega⟩
theorem pre_fuel : ∀ (n : Nat) (e : List Int × D), RuleOk e.2 → e.2.nodes ≤ n → pre n e = pre (n + 1) e
  | 0, e, h, hn => by
    have := inner_nodes h
    omega
  | n + 1, e, h, hn => by
    show e :: (kids e).flatMap (pre n) = e :: (kids e).flatMap (pre (n + 1))
    congr 1
    have : ∀ x ∈ kids e, pre n x = pre (n + 1) x := fun x hx => by
      obtain ⟨h1, h2⟩ := kids_ok h x hx
      exact pre_fuel n x h1 (by omega)
    rw [List.flatMap_def, List.flatMap_def, List.map_congr_left this]
/-- what stands at a place -/
def partAt : D → List Int → Option D
  | d, [] => some d
  | d, i :: p => match atI (inner d) i with
    | some x => partAt x p
    | none => none
theorem partAt_app : ∀ (d : D) (p q : List Int), partAt d (p ++ q) = (partAt d p).bind fun x => partAt x q
  | d, [], q => rfl
  | d, i :: p, q => by
    cases h : atI (inner d) i with
    | none => simp [partAt, h]
    | some x => simp [partAt, h, partAt_app x p q]
theorem pre_at {root : D} : ∀ (n : Nat) (e x : List Int × D), partAt root e.1 = some e.2 → x ∈ pre n e → partAt root x.1 = some x.2
  | 0, e, x, _, h => by cases h
  | n + 1, e, x, h0, h => by
    rcases List.mem_cons.mp h with rfl | h
    · exact h0
    · obtain ⟨k, hk, hx⟩ := List.mem_flatMap.mp h
      obtain ⟨i, h1, h2⟩ := kids_mem hk
      refine pre_at n k x ?_ hx
      rw [h2, partAt_app, h0]
      show (match atI (inner e.2) (i : Int) with | some x => partAt x [] | none => none) = _
      rw [at_nat h1]
      rfl
theorem pre_len : ∀ (n : Nat) (e : List Int × D), RuleOk e.2 → (pre n e).length ≤ e.2.nodes
  | 0, e, _ => Nat.zero_le _
  | n + 1, e, h => by
    have h4 := inner_nodes h
    have : ((kids e).flatMap (pre n)).length ≤ D.nodesAll (inner e.2) := by
      unfold kids
      have go : ∀ (ds : List D) (j : Nat), (∀ x ∈ ds, RuleOk x) → (((ds.zipIdx j).map fun p => (e.1 ++ [(p.2 : Int)], p.1)).flatMap (pre n)).length ≤ D.nodesAll ds := by
        intro ds
        induction ds with
        | nil => intro j _; simp
        | cons d ds ih =>
          intro j ha
          have h1 : (pre n (e.1 ++ [(j : Int)], d)).length ≤ d.nodes := pre_len n (e.1 ++ [(j : Int)], d) (ha d List.mem_cons_self)
          have h2 := ih (j + 1) fun x hx => ha x (List.mem_cons_of_mem _ hx)
          simp only [List.zipIdx_cons, List.map_cons, List.flatMap_cons, List.length_append, D.nodesAll]
          omega
      exact go _ 0 (inner_all h)
    show ((kids e).flatMap (pre n)).length + 1 ≤ _
    omega
/-! the sequence of the places: as they are sorted -/
def plD (p : List Int) : D := .tup (p.map .int)
theorem toksAll_ints (p : List Int) : D.toksAll (p.map .int) = p.flatMap (fun i => [1, 0, i]) ++ [0] := by
  induction p with
  | nil => rfl
  | cons i p ih => simp [D.toksAll, D.toks, ih]
theorem tlt_pl {p q : List Int} : tlt (plD p) (plD q) = decide (p.flatMap (fun i => [1, 0, i]) ++ [(0 : Int)] < q.flatMap (fun i => [1, 0, i]) ++ [0]) := by
  show decide (D.toks (.tup (p.map .int)) < D.toks (.tup (q.map .int))) = _
  simp only [D.toks, toksAll_ints, List.cons_lt_cons_iff, Int.lt_irrefl, false_or, true_and]
/-- a place lies ahead of what lies below it -/
theorem pl_below {p : List Int} {i : Int} {q : List Int} : tlt (plD (p ++ i :: q)) (plD p) = false := by
  rw [tlt_pl]
  refine decide_eq_false fun h => ?_
  simp only [List.flatMap_append, List.append_assoc] at h
  rw [app_lt] at h
  simp [List.cons_lt_cons_iff] at h
/-- what lies below a place, ahead of what lies below one further on -/
theorem pl_side {p : List Int} {i j : Int} (h : i < j) {q r : List Int} : tlt (plD (p ++ j :: q)) (plD (p ++ i :: r)) = false := by
  rw [tlt_pl]
  refine decide_eq_false fun g => ?_
  simp only [List.flatMap_append, List.append_assoc] at g
  rw [app_lt] at g
  simp [List.cons_lt_cons_iff] at g
  omega
theorem pre_pre : ∀ (n : Nat) (e x : List Int × D), x ∈ pre n e → ∃ q, x.1 = e.1 ++ q
  | 0, e, x, h => by cases h
  | n + 1, e, x, h => by
    rcases List.mem_cons.mp h with rfl | h
    · exact ⟨[], by simp⟩
    · obtain ⟨k, hk, hx⟩ := List.mem_flatMap.mp h
      obtain ⟨i, h1, h2⟩ := kids_mem hk
      obtain ⟨q, hq⟩ := pre_pre n k x hx
      exact ⟨(i : Int) :: q, by rw [hq, h2]; simp⟩
theorem pre_below : ∀ (n : Nat) (e x : List Int × D), x ∈ (kids e).flatMap (pre n) → ∃ (i : Int) (q : List Int), x.1 = e.1 ++ i :: q := fun n e x h => by
  obtain ⟨k, hk, hx⟩ := List.mem_flatMap.mp h
  obtain ⟨i, h1, h2⟩ := kids_mem hk
  obtain ⟨q, hq⟩ := pre_pre n k x hx
  exact ⟨i, q, by rw [hq, h2]; simp⟩
theorem pre_up : ∀ (n : Nat) (e : List Int × D), UpD ((pre n e).map fun x => plD x.1)
  | 0, e => List.Pairwise.nil
  | n + 1, e => by
    show UpD (plD e.1 :: ((kids e).flatMap (pre n)).map fun x => plD x.1)
    refine List.pairwise_cons.mpr ⟨fun y hy => ?_, ?_⟩
    · obtain ⟨x, hx, rfl⟩ := List.mem_map.mp hy
      obtain ⟨i, q, hq⟩ := pre_below n e x hx
      rw [hq]
      exact pl_below
    · have go : ∀ (ds : List D) (j : Nat), UpD ((((ds.zipIdx j).map fun p => (e.1 ++ [(p.2 : Int)], p.1)).flatMap (pre n)).map fun x => plD x.1) ∧ ∀ x ∈ (((ds.zipIdx j).map fun p => (e.1 ++ [(p.2 : Int)], p.1)).flatMap (pre n)), ∃ (i : Nat) (q : List Int), j ≤ i ∧ x.1 = e.1 ++ (i : Int) :: q := by
        intro ds
        induction ds with
        | nil => intro j; exact ⟨List.Pairwise.nil, fun x hx => by simp at hx⟩
        | cons d ds ih =>
          intro j
          obtain ⟨h1, h2⟩ := ih (j + 1)
          simp only [List.zipIdx_cons, List.map_cons, List.flatMap_cons, List.map_append]
          have h3 : ∀ x ∈ pre n (e.1 ++ [(j : Int)], d), ∃ q, x.1 = e.1 ++ (j : Int) :: q := fun x hx => by
            obtain ⟨q, hq⟩ := pre_pre n _ x hx
            exact ⟨q, by rw [hq]; simp⟩
          refine ⟨List.pairwise_append.mpr ⟨pre_up n _, h1, fun a ha b hb => ?_⟩, fun x hx => ?_⟩
          · obtain ⟨x, hx, rfl⟩ := List.mem_map.mp ha
            obtain ⟨y, hy, rfl⟩ := List.mem_map.mp hb
            obtain ⟨q, hq⟩ := h3 x hx
            obtain ⟨i, r, hi, hr⟩ := h2 y hy
            rw [hq, hr]
            exact pl_side (by omega)
          · rcases List.mem_append.mp hx with hx | hx
            · obtain ⟨q, hq⟩ := h3 x hx
              exact ⟨j, q, Nat.le_refl _, hq⟩
            · obtain ⟨i, q, hi, hq⟩ := h2 x hx
              exact ⟨i, q, by omega, hq⟩
      exact (go _ 0).1
theorem plD_inj {p q : List Int} (h : plD p = plD q) : p = q := by
  unfold plD at h
  have := D.tup.inj h
  exact (List.map_inj_right fun a b hab => D.int.inj hab).mp this
end DL
/-! Small rules of evaluation, general. -/
namespace DL
open PySem PySem.Spec L2
theorem lc_map {s : Src} {γ : D → En → Mem → R En} {f : DF} {ρw : En} {M : Mem} (h : D → D) (hs : ∀ acc, s.ok (M ++ [.lst acc]) = true) : ∀ (ds acc : List D), (∀ d ∈ ds, ∀ a, ∃ ρ1, γ d ρw (M ++ [.lst a]) = .ok ρ1 (M ++ [.lst a]) ∧ f ρ1 (M ++ [.lst a]) = .ok (h d) (M ++ [.lst a])) → acc.length + ds.length < 100000 →
    lcF M.length s γ dYes f ρw ds (M ++ [.lst acc]) = .ok () (M ++ [.lst (acc ++ ds.map h)])
  | [], acc, _, _ => by
    unfold lcF
    rw [if_pos (hs acc), List.map_nil, List.append_nil]
  | d :: ds, acc, hb, hz => by
    obtain ⟨ρ1, h1, h2⟩ := hb d List.mem_cons_self acc
    simp only [List.length_cons] at hz
    have ih := lc_map h hs ds (acc ++ [h d]) (fun x hx => hb x (List.mem_cons_of_mem _ hx)) (by simp; omega)
    have e1 : (M ++ [MO.lst acc]).set M.length (.lst (acc ++ [h d])) = M ++ [.lst (acc ++ [h d])] := by simp
    unfold lcF
    rw [if_pos (hs acc), h1, ev_bnd, ev_yes, ev_bnd, if_pos rfl, h2, ev_bnd, get_new]
    show (if acc.length < sizeLine then lcF M.length s γ dYes f ρw ds ((M ++ [MO.lst acc]).set M.length (.lst (acc ++ [h d]))) else .stk) = _
    rw [if_pos (sz63 (by omega)), e1, ih]
    simp
theorem dlc_map {φ : DFi} {γ : D → En → Mem → R En} {f : DF} {vs : List Nat} {ρ : En} {m M : Mem} {s : Src} (h : D → D) (hφ : φ ρ m = .ok s M) (hs : s.lk = none ∨ ∃ k o, s.lk = some (k, o) ∧ M[k]? = some o) (hb : ∀ d ∈ s.items, ∀ a, ∃ ρ1, γ d (wipeD ρ vs) (M ++ [.lst a]) = .ok ρ1 (M ++ [.lst a]) ∧ f ρ1 (M ++ [.lst a]) = .ok (h d) (M ++ [.lst a])) (hz : s.items.length < 100000) :
    dLc φ γ dYes f vs ρ m = .ok (.ref M.length) (M ++ [.lst (s.items.map h)]) := by
  have so : ∀ acc, s.ok (M ++ [.lst acc]) = true := fun acc => by
    rcases hs with h | ⟨k, o, h, hk⟩
    · simp [Src.ok, h]
    · simp [Src.ok, h, get_old hk]
  have := lc_map (γ := γ) (f := f) (ρw := wipeD ρ vs) h so s.items [] hb (by simpa using hz)
  rw [ev_lc, hφ, ev_bind, this, ev_bnd, List.nil_append]
theorem mt_ok {c : D → Mem → Bool} {o : D → List D → Mem → R D} {f : DF} {fs : DFs} {ρ : En} {m m1 m2 : Mem} {d : D} {ds : List D} {r : R D} (h1 : f ρ m = .ok d m1) (h2 : c d m1 = true) (h3 : fs ρ m1 = .ok ds m2) (h4 : o d ds m2 = r) : dMt c o f fs ρ m = r := by
  rw [ev_mt, h1, ev_bind, if_pos h2, h3, ev_bind, h4]
theorem cut_to {xs : List D} {k : Nat} (h : k ≤ xs.length) : cutD xs none (some (k : Int)) = xs.take k := by
  unfold cutD
  rw [HT.sIx_none, HT.sIx_nat, Nat.min_eq_left h]
  simp
theorem cut_from {xs : List D} {k : Nat} (h : k ≤ xs.length) : cutD xs (some (k : Int)) none = xs.drop k := by
  unfold cutD
  rw [HT.sIx_none, HT.sIx_nat, Nat.min_eq_left h]
  exact List.take_of_length_le (by simp)
theorem cut_last {xs : List D} : cutD xs none (some (-1)) = xs.dropLast := by
  unfold cutD
  rw [HT.sIx_none]
  have : HT.sIx xs.length xs.length (some (-1)) = xs.length - 1 := by
    show (if (-1 : Int) < 0 then (-1 + (xs.length : Int)).toNat else min (-1 : Int).toNat xs.length) = _
    rw [if_pos (by decide : (-1 : Int) < 0)]
    omega
  rw [this, List.dropLast_eq_take]
  simp
/-- a rule with one of the rules inside changed -/
theorem cut_mid {xs : List D} {a e : Nat} (h1 : a ≤ e) (h2 : e ≤ xs.length) : cutD xs (some (a : Int)) (some (e : Int)) = (xs.drop a).take (e - a) := by
  unfold cutD HT.sIx
  have : ¬ ((a : Int) < 0) := by omega
  have : ¬ ((e : Int) < 0) := by omega
  simp [*]
  rw [Nat.min_eq_left (by omega)]
theorem sl_l {m : Mem} {r : Nat} {xs : List D} {lo hi : Option Int} (h : m[r]? = some (.lst xs)) : opSl (.ref r) lo hi m = .ok (.ref m.length) (m ++ [.lst (cutD xs lo hi)]) := by
  unfold opSl
  simp only [ev_seq_r, h]
theorem opT_l {m : Mem} {r : Nat} {xs : List D} (h : m[r]? = some (.lst xs)) : opTuple (.ref r) m = .ok (.tup xs) m := by
  rw [ev_tuple_r, ev_seq_r, h]
theorem ln_l {m : Mem} {r : Nat} {xs : List D} (h : m[r]? = some (.lst xs)) : opLen (.ref r) m = .ok (.int xs.length) m := by
  rw [ev_len_r, ev_seq_r, h]
theorem lc_gen {s : Src} (hs : s.lk = none) {γ : D → En → Mem → R En} {f : DF} {ρw : En} {L l : Nat} (Good : D → Prop) (St : Mem → Prop) (hL : L ≠ l) (hset : ∀ m o, St m → St (m.set L o)) : ∀ (ds acc : List D) (m : Mem), (∀ d ∈ ds, ∀ m, St m → ∃ ρ1 y m', γ d ρw m = .ok ρ1 m ∧ f ρ1 m = .ok y m' ∧ Good y ∧ St m' ∧ Frm [l] m m') → St m → m[L]? = some (.lst acc) → acc.length + ds.length < 100000 →
    ∃ ys m', lcF L s γ dYes f ρw ds m = .ok () m' ∧ St m' ∧ m'[L]? = some (.lst (acc ++ ys)) ∧ ys.length = ds.length ∧ (∀ y ∈ ys, Good y) ∧ Frm [l, L] m m'
  | [], acc, m, hb, h1, h2, h3 => ⟨[], m, by unfold lcF; rw [if_pos (by simp [Src.ok, hs])], h1, by simpa using h2, rfl, by simp, Frm.refl⟩
  | d :: ds, acc, m, hb, h1, h2, h3 => by
    simp only [List.length_cons] at h3
    obtain ⟨ρ1, y, m1, e1, e2, g1, s1, f1⟩ := hb d List.mem_cons_self m h1
    have g2 : m1[L]? = some (.lst acc) := f1.get h2 (by simpa using hL)
    obtain ⟨ys, m2, e3, s2, g3, hl, hg, f2⟩ := lc_gen hs Good St hL hset ds (acc ++ [y]) (m1.set L (.lst (acc ++ [y]))) (fun x hx => hb x (List.mem_cons_of_mem _ hx)) (hset _ _ s1) (get_set g2) (by simp; omega)
    refine ⟨y :: ys, m2, ?_, s2, by rw [g3]; simp, by simp [hl], ?_, ?_⟩
    · unfold lcF
      rw [if_pos (by simp [Src.ok, hs]), e1, ev_bnd, ev_yes, ev_bnd, if_pos rfl, e2, ev_bnd, g2]
      show (if acc.length < sizeLine then lcF L s γ dYes f ρw ds (m1.set L (.lst (acc ++ [y]))) else .stk) = _
      rw [if_pos (sz63 (by omega)), e3]
    · intro x hx
      rcases List.mem_cons.mp hx with rfl | hx
      · exact g1
      · exact hg x hx
    · exact ((f1.mono (by simp)).set (.inl (by simp))).trans f2
theorem dlc_gen {φ : DFi} {γ : D → En → Mem → R En} {f : DF} {vs : List Nat} {ρ : En} {m : Mem} {s : Src} {l : Nat} (Good : D → Prop) (St : Mem → Prop) (hφ : φ ρ m = .ok s m) (hs : s.lk = none) (hl : l < m.length) (hset : ∀ m' o, St m' → St (m'.set m.length o)) (hnew : ∀ o, St (m ++ [o]))
    (hb : ∀ d ∈ s.items, ∀ m, St m → ∃ ρ1 y m', γ d (wipeD ρ vs) m = .ok ρ1 m ∧ f ρ1 m = .ok y m' ∧ Good y ∧ St m' ∧ Frm [l] m m') (hz : s.items.length < 100000) :
    ∃ ys m', dLc φ γ dYes f vs ρ m = .ok (.ref m.length) m' ∧ St m' ∧ m'[m.length]? = some (.lst ys) ∧ ys.length = s.items.length ∧ (∀ y ∈ ys, Good y) ∧ Frm [l] m m' := by
  obtain ⟨ys, m', e, s2, g, h1, h2, f2⟩ := lc_gen (γ := γ) (f := f) (ρw := wipeD ρ vs) hs (L := m.length) (l := l) Good St (by omega) hset s.items [] (m ++ [.lst []]) hb (hnew _) get_new (by simpa using hz)
  refine ⟨ys, m', ?_, s2, by simpa using g, h1, h2, ?_⟩
  · rw [ev_lc, hφ, ev_bind, e, ev_bnd]
  · have hle := f2.le
    simp only [List.length_append, List.length_singleton] at hle
    exact ⟨by omega, fun i hi n => by
      have := f2.old i (by simp; omega) (by simp only [List.mem_cons, List.not_mem_nil, or_false, not_or] at n ⊢; exact ⟨n, by omega⟩)
      rw [this, List.getElem?_append_left hi]⟩
/-- a call that gives True under `if not` -/
theorem if_not_true {F : List D → Mem → R D} {fs : DFs} {ds : List D} {ρ : En} {m m1 m2 : Mem} (h1 : fs ρ m = .ok ds m1) (h2 : F ds m1 = .ok (.bl true) m2) : dIfS (dNot (dTru (dApp F [] fs))) (dRet (dC (.bl false))) dNext ρ m = .nx ρ m2 := by
  rw [ev_ifS, ev_not, ev_tru, ev_app, h1, ev_bind, List.append_nil, h2, ev_bind]
  rfl
theorem set_call {F : List D → Mem → R D} {i : Nat} {fs : DFs} {ds : List D} {d : D} {ρ : En} {m m1 m2 : Mem} (h1 : fs ρ m = .ok ds m1) (h2 : F ds m1 = .ok d m2) : dSet i (dApp F [] fs) ρ m = .nx (ρ.set i (some d)) m2 := by
  rw [ev_set, ev_app, h1, ev_bind, List.append_nil, h2, ev_goes]
theorem cons_call {F : List D → Mem → R D} {fs gs : DFs} {ds es : List D} {d : D} {ρ : En} {m m1 m2 m3 : Mem} (h1 : fs ρ m = .ok ds m1) (h2 : F ds m1 = .ok d m2) (h3 : gs ρ m2 = .ok es m3) : dCons (dApp F [] fs) gs ρ m = .ok (d :: es) m3 := by
  rw [ev_cons, ev_app, h1, ev_bind, List.append_nil, h2, ev_bind, h3, ev_bind]
theorem call_K {F : List D → Mem → R D} {ix : List Nat} {fs : DFs} {ds es : List D} {d : D} {ρ : En} {m m1 m2 : Mem} (h1 : fs ρ m = .ok ds m1) (hl : ds.length = ix.length) (hp : permL ix ds = es) (h2 : F es m1 = .ok d m2) : dAppK F ix fs ρ m = .ok d m2 := by
  rw [ev_appK, h1, ev_bind, if_pos hl, hp, h2]
theorem cons_any {f : DF} {gs : DFs} {es : List D} {d : D} {ρ : En} {m m1 m2 : Mem} (h1 : f ρ m = .ok d m1) (h2 : gs ρ m1 = .ok es m2) : dCons f gs ρ m = .ok (d :: es) m2 := by
  rw [ev_cons, h1, ev_bind, h2, ev_bind]
theorem nil_any {ρ : En} {m : Mem} : dNil ρ m = .ok [] m := rfl
theorem var_any {ρ : En} {m : Mem} {i : Nat} {d : D} (h : ρ[i]? = some (some d)) : dVar i ρ m = .ok d m := by
  rw [ev_var, h]
theorem app_any {F : List D → Mem → R D} {fs : DFs} {ds : List D} {d : D} {ρ : En} {m m1 m2 : Mem} (h1 : fs ρ m = .ok ds m1) (h2 : F ds m1 = .ok d m2) : dApp F [] fs ρ m = .ok d m2 := by
  rw [ev_app, h1, ev_bind, List.append_nil, h2]
theorem tup_of {ρ : En} {m : Mem} {i r : Nat} {xs : List D} (h : ρ[i]? = some (some (.ref r))) (g : m[r]? = some (.lst xs)) : dCall (fn1 opTuple) (dCons (dVar i) dNil) ρ m = .ok (.tup xs) m := by
  rw [ev_call, cons_any (var_any h) nil_any, ev_bind, ev_fn1, opT_l g]
theorem and_true {f g : DF} {ρ : En} {m m1 m2 : Mem} {d : D} (h1 : f ρ m = .ok (.bl true) m1) (h2 : g ρ m1 = .ok d m2) : dAndV f g ρ m = .ok d m2 := by
  rw [ev_andV, h1, ev_bind]
  exact h2
theorem tst_true {F : List D → Mem → R D} {fs : DFs} {ds : List D} {ρ : En} {m m1 m2 : Mem} (h1 : fs ρ m = .ok ds m1) (h2 : F ds m1 = .ok (.bl true) m2) : dNot (dTru (dApp F [] fs)) ρ m = .ok false m2 := by
  rw [ev_not, ev_tru, ev_app, h1, ev_bind, List.append_nil, h2, ev_bind]
  rfl
theorem or_false_ {t u : DFb} {ρ : En} {m m1 : Mem} {r : R Bool} (h1 : t ρ m = .ok false m1) (h2 : u ρ m1 = r) : dOr t u ρ m = r := by
  rw [ev_or, h1, ev_bind, if_neg (by decide), h2]
theorem if_false {t : DFb} {a b : DSt} {ρ : En} {m m1 : Mem} (h1 : t ρ m = .ok false m1) : dIfS t a b ρ m = b ρ m1 := by
  rw [ev_ifS, h1, ev_goes, if_neg (by decide)]
theorem tup_any {fs : DFs} {ds : List D} {ρ : En} {m m1 : Mem} (h : fs ρ m = .ok ds m1) (hz : ds.length ≤ 1000) : dTup fs ρ m = .ok (.tup ds) m1 := by
  rw [ev_tup, h, ev_bind, if_pos (sz_le (by omega))]
theorem C_any {d : D} {ρ : En} {m : Mem} : dC d ρ m = .ok d m := rfl
theorem bin_any {o : O2} {f g : DF} {x y d : D} {ρ : En} {m m1 m2 m3 : Mem} (h1 : f ρ m = .ok x m1) (h2 : g ρ m1 = .ok y m2) (h3 : o x y m2 = .ok d m3) : dBin o f g ρ m = .ok d m3 := by
  rw [ev_bin, h1, ev_bind, h2, ev_bind, h3]
theorem set_any {f : DF} {i : Nat} {d : D} {ρ : En} {m m1 : Mem} (h : f ρ m = .ok d m1) : dSet i f ρ m = .nx (ρ.set i (some d)) m1 := by
  rw [ev_set, h, ev_goes]
theorem it_lst {ρ : En} {m : Mem} {i r : Nat} {xs : List D} (hv : ρ[i]? = some (some (.ref r))) (hm : m[r]? = some (.lst xs)) : dIt (dVar i) ρ m = .ok ⟨xs, some (r, .lst xs)⟩ m := by
  rw [ev_it, ev_var, hv, ev_bind]
  unfold srcOf
  simp only [hm]
end DL
/-! The second family of draws: a pot of great numbers. -/
namespace DL
open PySem PySem.Spec L2
/-! general: comprehensions -/
theorem lc_filt {s : Src} {γ : D → En → Mem → R En} {t : DFb} {f : DF} {ρw : En} {M : Mem} (b : D → Bool) (hs : ∀ acc, s.ok (M ++ [.lst acc]) = true) : ∀ (ds acc : List D), (∀ d ∈ ds, ∀ a, ∃ ρ1, γ d ρw (M ++ [.lst a]) = .ok ρ1 (M ++ [.lst a]) ∧ t ρ1 (M ++ [.lst a]) = .ok (b d) (M ++ [.lst a]) ∧ (b d = true → f ρ1 (M ++ [.lst a]) = .ok d (M ++ [.lst a]))) → acc.length + ds.length < 100000 →
    lcF M.length s γ t f ρw ds (M ++ [.lst acc]) = .ok () (M ++ [.lst (acc ++ ds.filter b)])
  | [], acc, _, _ => by
    unfold lcF
    rw [if_pos (hs acc), List.filter_nil, List.append_nil]
  | d :: ds, acc, hb, hz => by
    obtain ⟨ρ1, h1, h2, h3⟩ := hb d List.mem_cons_self acc
    simp only [List.length_cons] at hz
    unfold lcF
    rw [if_pos (hs acc), h1, ev_bnd, h2, ev_bnd]
    cases e : b d with
    | false =>
      rw [if_neg (by decide), List.filter_cons_of_neg (by rw [e]; decide)]
      exact lc_filt b hs ds acc (fun x hx => hb x (List.mem_cons_of_mem _ hx)) (by omega)
    | true =>
      have ih := lc_filt b hs ds (acc ++ [d]) (fun x hx => hb x (List.mem_cons_of_mem _ hx)) (by simp; omega)
      have e1 : (M ++ [MO.lst acc]).set M.length (.lst (acc ++ [d])) = M ++ [.lst (acc ++ [d])] := by simp
      rw [if_pos rfl, h3 e, ev_bnd, get_new]
      show (if acc.length < sizeLine then lcF M.length s γ t f ρw ds ((M ++ [MO.lst acc]).set M.length (.lst (acc ++ [d]))) else .stk) = _
      rw [if_pos (sz63 (by omega)), e1, ih, List.filter_cons_of_pos e]
      simp
theorem dlc_filt {φ : DFi} {γ : D → En → Mem → R En} {t : DFb} {f : DF} {vs : List Nat} {ρ : En} {m : Mem} {s : Src} (b : D → Bool) (hφ : φ ρ m = .ok s m) (hs : s.lk = none) (hb : ∀ d ∈ s.items, ∀ M, ∃ ρ1, γ d (wipeD ρ vs) M = .ok ρ1 M ∧ t ρ1 M = .ok (b d) M ∧ (b d = true → f ρ1 M = .ok d M)) (hz : s.items.length < 100000) :
    dLc φ γ t f vs ρ m = .ok (.ref m.length) (m ++ [.lst (s.items.filter b)]) := by
  have := lc_filt (s := s) (γ := γ) (t := t) (f := f) (ρw := wipeD ρ vs) (M := m) b (fun acc => by simp [Src.ok, hs]) s.items [] (fun d hd a => hb d hd _) (by simpa using hz)
  rw [ev_lc, hφ, ev_bind, this, ev_bnd, List.nil_append]
theorem lc_rel {s : Src} {γ : D → En → Mem → R En} {f : DF} {ρw : En} {L : Nat} {ls : List Nat} (Good : D → Prop) (St : Nat → Mem → Prop) (hL : L ∉ ls) (hset : ∀ n m o, St n m → St n (m.set L o)) (hok : ∀ n m, St n m → s.ok m = true) : ∀ (ds acc : List D) (m : Mem), (∀ d ∈ ds, ∀ n m, St (n + 1) m → ∃ ρ1 y m', γ d ρw m = .ok ρ1 m ∧ f ρ1 m = .ok y m' ∧ Good y ∧ St n m' ∧ Frm ls m m') → ∀ n, St (n + ds.length) m → m[L]? = some (.lst acc) → acc.length + ds.length < 100000 →
    ∃ ys m', lcF L s γ dYes f ρw ds m = .ok () m' ∧ St n m' ∧ m'[L]? = some (.lst (acc ++ ys)) ∧ ys.length = ds.length ∧ (∀ y ∈ ys, Good y) ∧ Frm (L :: ls) m m'
  | [], acc, m, hb, n, h1, h2, h3 => ⟨[], m, by unfold lcF; rw [if_pos (hok _ m h1)], h1, by simpa using h2, rfl, by simp, Frm.refl⟩
  | d :: ds, acc, m, hb, n, h1, h2, h3 => by
    simp only [List.length_cons] at h3 h1
    obtain ⟨ρ1, y, m1, e1, e2, g1, s1, f1⟩ := hb d List.mem_cons_self (n + ds.length) m h1
    have g2 : m1[L]? = some (.lst acc) := f1.get h2 hL
    obtain ⟨ys, m2, e3, s2, g3, hl, hg, f2⟩ := lc_rel Good St hL hset hok ds (acc ++ [y]) (m1.set L (.lst (acc ++ [y]))) (fun x hx => hb x (List.mem_cons_of_mem _ hx)) n (hset _ _ _ s1) (get_set g2) (by simp; omega)
    refine ⟨y :: ys, m2, ?_, s2, by rw [g3]; simp, by simp [hl], ?_, ?_⟩
    · unfold lcF
      rw [if_pos (hok _ m h1), e1, ev_bnd, ev_yes, ev_bnd, if_pos rfl, e2, ev_bnd, g2]
      show (if acc.length < sizeLine then lcF L s γ dYes f ρw ds (m1.set L (.lst (acc ++ [y]))) else .stk) = _
      rw [if_pos (sz63 (by omega)), e3]
    · intro x hx
      rcases List.mem_cons.mp hx with rfl | hx
      · exact g1
      · exact hg x hx
    · exact ((f1.mono (fun i hi => List.mem_cons_of_mem _ hi)).set (.inl List.mem_cons_self)).trans f2
theorem Frm.cut {ls : List Nat} {m m' : Mem} {o : MO} (h : Frm (m.length :: ls) (m ++ [o]) m') : Frm ls m m' := by
  have hle := h.le
  simp only [List.length_append, List.length_singleton] at hle
  exact ⟨by omega, fun i hi n => by
    have := h.old i (by simp; omega) (by simp only [List.mem_cons, not_or]; exact ⟨by omega, n⟩)
    rw [this, List.getElem?_append_left hi]⟩
theorem dlc_rel {φ : DFi} {γ : D → En → Mem → R En} {f : DF} {vs : List Nat} {ρ : En} {m M : Mem} {s : Src} {ls : List Nat} (Good : D → Prop) (St : Nat → Mem → Prop) (n : Nat) (hφ : φ ρ m = .ok s M) (hls : ∀ i ∈ ls, i < M.length) (hset : ∀ n m' o, St n m' → St n (m'.set M.length o)) (hok : ∀ n m, St n m → s.ok m = true) (h0 : St (n + s.items.length) (M ++ [.lst []]))
    (hb : ∀ d ∈ s.items, ∀ n m, St (n + 1) m → ∃ ρ1 y m', γ d (wipeD ρ vs) m = .ok ρ1 m ∧ f ρ1 m = .ok y m' ∧ Good y ∧ St n m' ∧ Frm ls m m') (hz : s.items.length < 100000) :
    ∃ ys m', dLc φ γ dYes f vs ρ m = .ok (.ref M.length) m' ∧ St n m' ∧ m'[M.length]? = some (.lst ys) ∧ ys.length = s.items.length ∧ (∀ y ∈ ys, Good y) ∧ Frm ls M m' := by
  obtain ⟨ys, m', e, s2, g, h1, h2, f2⟩ := lc_rel (γ := γ) (f := f) (ρw := wipeD ρ vs) (L := M.length) (ls := ls) Good St (fun z => Nat.lt_irrefl _ (hls _ z)) hset hok s.items [] (M ++ [.lst []]) hb n h0 get_new (by simpa using hz)
  exact ⟨ys, m', by rw [ev_lc, hφ, ev_bind, e, ev_bnd], s2, by simpa using g, h1, h2, f2.cut⟩
/-! ### the pot -/
/-- the pot at l, its great numbers at p; so many draws may still come -/
def Pot (m : Mem) (l p f : Nat) : Prop := ∃ (mix k : Int) (pool : List Int), m[l]? = some (.lst [.ref p, .int mix, .int k]) ∧ 0 ≤ mix ∧ mix < 4294967296 ∧ 0 ≤ k ∧ k + f ≤ 1000000000 ∧ m[p]? = some (.lst (pool.map .int))
theorem Pot.ne {m : Mem} {l p f : Nat} (h : Pot m l p f) : l ≠ p := by
  obtain ⟨mix, k, pool, h1, _, _, _, _, h2⟩ := h
  rintro rfl
  rw [h1] at h2
  cases pool with
  | nil => simp at h2
  | cons => simp at h2
theorem Pot.lt {m : Mem} {l p f : Nat} (h : Pot m l p f) : l < m.length ∧ p < m.length := by
  obtain ⟨_, _, _, h1, _, _, _, _, h2⟩ := h
  exact ⟨lt_of_get h1, lt_of_get h2⟩
theorem Pot.frm {ls : List Nat} {m m' : Mem} {l p f : Nat} (h : Pot m l p f) (a : Frm ls m m') (n1 : l ∉ ls) (n2 : p ∉ ls) : Pot m' l p f := by
  obtain ⟨mix, k, pool, h1, a1, a2, a3, a4, h2⟩ := h
  exact ⟨mix, k, pool, a.get h1 n1, a1, a2, a3, a4, a.get h2 n2⟩
theorem Pot.le {m : Mem} {l p f f' : Nat} (h : Pot m l p f) (hf : f' ≤ f) : Pot m l p f' := by
  obtain ⟨mix, k, pool, h1, a1, a2, a3, a4, h2⟩ := h
  exact ⟨mix, k, pool, h1, a1, a2, a3, by omega, h2⟩
theorem Pot.app {m t : Mem} {l p f : Nat} (h : Pot m l p f) : Pot (m ++ t) l p f := h.frm (ls := []) Frm.app (by simp) (by simp)
theorem Pot.set_ne {m : Mem} {l p f i : Nat} {o : MO} (h : Pot m l p f) (h1 : i ≠ l) (h2 : i ≠ p) : Pot (m.set i o) l p f := h.frm (ls := [i]) (Frm.refl.set (.inl (by simp))) (by simp; omega) (by simp; omega)
def drawG (a b c d e : Int) : DSt := (dSeq (dSet 2 (dBin opIxM (dVar 0) (dC (.int 0))))
  (dSeq (dIfS (dAnd (dTru (dVar 2)) (dTest (dBin opLt (dBin opIxM (dVar 2) (dC (.int 0))) (dVar 1)))) (dDrop (dMt isLst mPopAt (dVar 2) (dCons (dC (.int 0)) dNil))) dNext)
  (dSeq (dIfS (dTru (dVar 2)) (dSeq (dSet 3 (dBin opMod (dCall (fn1 opIntOf) (dCons (dBin opIxM (dVar 2) (dC (.int 0))) dNil)) (dVar 1)))
  (dSeq (dSub (dBin opDiv (dBin opIxM (dVar 2) (dC (.int 0))) (dVar 1)) (dVar 2) (dC (.int 0)) opSetM)
  (dRet (dVar 3)))) dNext)
  (dSeq (dSub (dBin opAdd (dBin opIxM (dVar 0) (dC (.int 2))) (dC (.int 1))) (dVar 0) (dC (.int 2)) opSetM)
  (dSeq (dSub (dBin opMod (dBin opAdd (dBin opAdd (dBin opMul (dBin opIxM (dVar 0) (dC (.int 1))) (dC (.int a))) (dBin opMul (dBin opIxM (dVar 0) (dC (.int 2))) (dC (.int b)))) (dC (.int c))) (dC (.int d))) (dVar 0) (dC (.int 1)) opSetM)
  (dRet (dBin opMod (dBin opDiv (dCall (fn1 opIntOf) (dCons (dBin opIxM (dVar 0) (dC (.int 1))) dNil)) (dC (.int e))) (dVar 1))))))))
structure Draw (F : List D → Mem → R D) : Prop where
  ok : ∀ {m : Mem} {l p f : Nat} {many : Int}, Pot m l p (f + 1) → 0 < many → many < 2 ^ 60 → ∃ j m', F [.ref l, .int many] m = .ok (.int j) m' ∧ 0 ≤ j ∧ j < many ∧ Frm [l, p] m m' ∧ Pot m' l p f ∧ m'.length = m.length
theorem tru_l {m : Mem} {r : Nat} {xs : List D} (h : m[r]? = some (.lst xs)) : truD (.ref r) m = some (!xs.isEmpty) := by
  simp [truD, h]
theorem popAt_0 {m : Mem} {r : Nat} {x : D} {xs : List D} (h : m[r]? = some (.lst (x :: xs))) : mPopAt (.ref r) [.int 0] m = .ok x (m.set r (.lst xs)) := by
  simp [mPopAt, h]
theorem isLst_l {m : Mem} {r : Nat} {xs : List D} (h : m[r]? = some (.lst xs)) : isLst (.ref r) m = true := by simp [h]
/-- the last part of a draw -/
theorem draw_end {a b c d e : Int} (ha : 0 ≤ a ∧ a < 2 ^ 40) (hb : 0 ≤ b ∧ b < 2 ^ 40) (hc : 0 ≤ c) (hd : 0 < d ∧ d < 4294967296) (he : 0 < e ∧ e < 2 ^ 40) {m : Mem} {l p f : Nat} {many : Int} {y3 : Option D} (h : Pot m l p (f + 1)) (hm : 0 < many) :
    ∃ j m', (dSeq (dSub (dBin opAdd (dBin opIxM (dVar 0) (dC (.int 2))) (dC (.int 1))) (dVar 0) (dC (.int 2)) opSetM)
  (dSeq (dSub (dBin opMod (dBin opAdd (dBin opAdd (dBin opMul (dBin opIxM (dVar 0) (dC (.int 1))) (dC (.int a))) (dBin opMul (dBin opIxM (dVar 0) (dC (.int 2))) (dC (.int b)))) (dC (.int c))) (dC (.int d))) (dVar 0) (dC (.int 1)) opSetM)
  (dRet (dBin opMod (dBin opDiv (dCall (fn1 opIntOf) (dCons (dBin opIxM (dVar 0) (dC (.int 1))) dNil)) (dC (.int e))) (dVar 1))))) [some (.ref l), some (.int many), some (.ref p), y3] m = .rt (.int j) m' ∧ 0 ≤ j ∧ j < many ∧ Frm [l, p] m m' ∧ Pot m' l p f ∧ m'.length = m.length := by
  have hne := h.ne
  obtain ⟨mix, k, pool, h1, a1, a2, a3, a4, h2⟩ := h
  let mix' := (mix * a + (k + 1) * b + c) % d
  have q1 : 0 ≤ mix' := Int.emod_nonneg _ (by omega)
  have q2 : mix' < d := Int.emod_lt_of_pos _ hd.1
  let m1 := m.set l (.lst [.ref p, .int mix, .int (k + 1)])
  let m2 := m1.set l (.lst [.ref p, .int mix', .int (k + 1)])
  have g1 : m1[l]? = some (.lst [.ref p, .int mix, .int (k + 1)]) := get_set h1
  have g2 : m2[l]? = some (.lst [.ref p, .int mix', .int (k + 1)]) := get_set g1
  have t1 : dSub (dBin opAdd (dBin opIxM (dVar 0) (dC (.int 2))) (dC (.int 1))) (dVar 0) (dC (.int 2)) opSetM [some (.ref l), some (.int many), some (.ref p), y3] m = .nx [some (.ref l), some (.int many), some (.ref p), y3] m1 := by
    simp [h1, ixN_2, m1]
  have c1 : cMul mix a = true := mul_ok a1 (by omega) ha.1 (by omega)
  have c2 : cMul (k + 1) b = true := mul_ok (by omega) (by omega) hb.1 (by omega)
  have c3 := fun i => @mod_ok i d hd.1
  have c4 := fun i => @div_ok i e he.1 (by omega)
  have c5 := fun i => @mod_ok i many hm
  have t2 : dSub (dBin opMod (dBin opAdd (dBin opAdd (dBin opMul (dBin opIxM (dVar 0) (dC (.int 1))) (dC (.int a))) (dBin opMul (dBin opIxM (dVar 0) (dC (.int 2))) (dC (.int b)))) (dC (.int c))) (dC (.int d))) (dVar 0) (dC (.int 1)) opSetM [some (.ref l), some (.int many), some (.ref p), y3] m1 = .nx [some (.ref l), some (.int many), some (.ref p), y3] m2 := by
    simp [g1, c1, c2, c3, ixN_1, m2, mix']
  have t3 : dRet (dBin opMod (dBin opDiv (dCall (fn1 opIntOf) (dCons (dBin opIxM (dVar 0) (dC (.int 1))) dNil)) (dC (.int e))) (dVar 1)) [some (.ref l), some (.int many), some (.ref p), y3] m2 = .rt (.int (mix' / e % many)) m2 := by
    simp [g2, c4, c5]
  refine ⟨mix' / e % many, m2, by rw [ev_seq, t1, ev_thn_nx, ev_seq, t2, ev_thn_nx, t3], Int.emod_nonneg _ (by omega), Int.emod_lt_of_pos _ hm, (Frm.refl.set (.inl (by simp))).set (.inl (by simp)), ⟨mix', k + 1, pool, g2, q1, by omega, by omega, by push_cast at a4 ⊢; omega, get_set_ne (get_set_ne h2 hne) hne⟩, by simp [m2, m1]⟩
theorem draw_ok {a b c d e : Int} (ha : 0 ≤ a ∧ a < 2 ^ 40) (hb : 0 ≤ b ∧ b < 2 ^ 40) (hc : 0 ≤ c) (hd : 0 < d ∧ d < 4294967296) (he : 0 < e ∧ e < 2 ^ 40) : Draw (runB 2 4 (drawG a b c d e)) := ⟨fun {m l p f many} h hm hM => by
  have hne := h.ne
  obtain ⟨mix, k, pool, h1, a1, a2, a3, a4, h2⟩ := id h
  rw [run_eq (np := 2) rfl]
  show ∃ j m', (drawG a b c d e [some (.ref l), some (.int many), none, none] m).val = _ ∧ _
  unfold drawG
  have t1 : dSet 2 (dBin opIxM (dVar 0) (dC (.int 0))) [some (.ref l), some (.int many), none, none] m = .nx [some (.ref l), some (.int many), some (.ref p), none] m := by simp [h1]
  rw [ev_seq, t1, ev_thn_nx, ev_seq]
  -- the first great number, if it is too small, goes
  have t2 : ∃ (pool' : List Int) (m1 : Mem), (dIfS (dAnd (dTru (dVar 2)) (dTest (dBin opLt (dBin opIxM (dVar 2) (dC (.int 0))) (dVar 1)))) (dDrop (dMt isLst mPopAt (dVar 2) (dCons (dC (.int 0)) dNil))) dNext) [some (.ref l), some (.int many), some (.ref p), none] m = .nx [some (.ref l), some (.int many), some (.ref p), none] m1 ∧ m1[l]? = some (.lst [.ref p, .int mix, .int k]) ∧ m1[p]? = some (.lst (pool'.map .int)) ∧ Frm [l, p] m m1 ∧ m1.length = m.length := by
    cases pool with
    | nil => exact ⟨[], m, by simp [tru_l h2], h1, h2, Frm.refl, rfl⟩
    | cons x xs =>
      have tr := tru_l h2
      by_cases hx : x < many
      · refine ⟨xs, m.set p (.lst (xs.map .int)), ?_, get_set_ne h1 hne.symm, get_set h2, Frm.refl.set (.inl (by simp)), by simp⟩
        have po : mPopAt (.ref p) [.int 0] m = .ok (.int x) (m.set p (.lst (xs.map .int))) := popAt_0 h2
        simp [tr, h2, hx, po]
      · exact ⟨x :: xs, m, by simp [tr, h2, hx], h1, h2, Frm.refl, rfl⟩
  obtain ⟨pool', m1, e2, g1, g2, f1, l1⟩ := t2
  rw [e2, ev_thn_nx, ev_seq]
  cases pool' with
  | nil =>
    have t3 : (dIfS (dTru (dVar 2)) (dSeq (dSet 3 (dBin opMod (dCall (fn1 opIntOf) (dCons (dBin opIxM (dVar 2) (dC (.int 0))) dNil)) (dVar 1)))
  (dSeq (dSub (dBin opDiv (dBin opIxM (dVar 2) (dC (.int 0))) (dVar 1)) (dVar 2) (dC (.int 0)) opSetM)
  (dRet (dVar 3)))) dNext) [some (.ref l), some (.int many), some (.ref p), none] m1 = .nx [some (.ref l), some (.int many), some (.ref p), none] m1 := by simp [tru_l g2]
    obtain ⟨j, m2, e3, b1, b2, f2, p2, l2⟩ := draw_end ha hb hc hd he (m := m1) (l := l) (p := p) (f := f) (many := many) (y3 := none) ⟨mix, k, [], g1, a1, a2, a3, a4, g2⟩ hm
    exact ⟨j, m2, by rw [t3, ev_thn_nx, e3, ev_val_rt], b1, b2, f1.trans f2, p2, by rw [l2, l1]⟩
  | cons x xs =>
    have tr := tru_l g2
    have c1 := fun i => @mod_ok i many hm
    have c2 := fun i => @div_ok i many hm (by omega)
    let m2 := m1.set p (.lst (.int (x / many) :: xs.map .int))
    have t3 : (dIfS (dTru (dVar 2)) (dSeq (dSet 3 (dBin opMod (dCall (fn1 opIntOf) (dCons (dBin opIxM (dVar 2) (dC (.int 0))) dNil)) (dVar 1)))
  (dSeq (dSub (dBin opDiv (dBin opIxM (dVar 2) (dC (.int 0))) (dVar 1)) (dVar 2) (dC (.int 0)) opSetM)
  (dRet (dVar 3)))) dNext) [some (.ref l), some (.int many), some (.ref p), none] m1 = .rt (.int (x % many)) m2 := by
      have i0 : ixN (xs.length + 1) 0 = some 0 := ixN_nat (i := 0) (by omega)
      simp [tr, g2, c1, c2, i0, m2]
    refine ⟨x % many, m2, by rw [t3, ev_thn_rt, ev_val_rt], Int.emod_nonneg _ (by omega), Int.emod_lt_of_pos _ hm, f1.trans (Frm.refl.set (.inl (by simp))), ⟨mix, k, x / many :: xs, get_set_ne g1 hne.symm, a1, a2, a3, by push_cast at a4 ⊢; omega, get_set g2⟩, by simp [m2, l1]⟩⟩
end DL
/-! The pot made; one of a list; a list mixed; names. -/
namespace DL
open PySem PySem.Spec L2
def bigN : Int := ((10 : Int) ^ (60 : Int).toNat) ^ (5 : Int).toNat
theorem bigN_pos : 0 < bigN := by decide +kernel
theorem pow_big (ρ : En) (m : Mem) : dBin opPowV (dBin opPowV (dC (.int 10)) (dC (.int 60))) (dC (.int 5)) ρ m = .ok (.int bigN) m := by
  have c1 : cPowV 10 60 = true := by decide +kernel
  have c2 : cPowV ((10 : Int) ^ (60 : Int).toNat) 5 = true := by decide +kernel
  rw [ev_bin, ev_bin, ev_C, ev_bind, ev_C, ev_bind, ev_powV_i, if_pos c1, ev_bind, ev_C, ev_bind, ev_powV_i, if_pos c2]
  rfl
theorem pow_18 (ρ : En) (m : Mem) : dBin opPowV (dC (.int 10)) (dC (.int 18)) ρ m = .ok (.int ((10 : Int) ^ (18 : Int).toNat)) m := by
  have c1 : cPowV 10 18 = true := by decide +kernel
  rw [ev_bin, ev_C, ev_bind, ev_C, ev_bind, ev_powV_i, if_pos c1]
def potB (a b c d : Int) : DSt := (dSeq (dSet 5 (dBin opMod (dCall (fn1 opAbs) (dCons (dCall (fn1 opIntOf) (dCons (dVar 4) dNil)) dNil)) (dBin opPowV (dBin opPowV (dC (.int 10)) (dC (.int 60))) (dC (.int 5)))))
  (dSeq (dIfS (dTest (dBin opGe (dVar 5) (dBin opPowV (dC (.int 10)) (dC (.int 18))))) (dDrop (dMt isLst mAppend (dVar 2) (dCons (dVar 5) dNil))) dNext)
  (dSet 3 (dBin opMod (dBin opAdd (dBin opAdd (dBin opMul (dVar 3) (dC (.int a))) (dBin opMod (dVar 5) (dC (.int b)))) (dC (.int c))) (dC (.int d))))))
def potG (a b c d : Int) : DSt := (dSeq (dSet 2 (dLst dNil))
  (dSeq (dSet 3 (dVar 1))
  (dSeq (dFor (dIt (dSl opSl (dVar 0) dNoPt (dPt (dC (.int 63))))) (γName 4) (potB a b c d))
  (dRet (dLst (dCons (dVar 2) (dCons (dVar 3) (dCons (dC (.int 0)) dNil))))))))
theorem pot_loop {a b c d : Int} (ha : 0 ≤ a ∧ a < 2 ^ 40) (hb : 0 < b ∧ b < 2 ^ 40) (hc : 0 ≤ c) (hd : 0 < d ∧ d < 4294967296) {x0 x1 : Option D} {items : List D} : ∀ (ds : List D) (mix : Int) (pool : List Int) (y4 y5 : Option D) (m : Mem), (∀ z ∈ ds, ∃ i, z = D.int i) → 0 ≤ mix → mix < 4294967296 → m[1]? = some (.lst (pool.map .int)) → m[2]? = some (.lst items) → pool.length + ds.length ≤ 50000 →
    ∃ mix' pool' z4 z5 m', forF ⟨items, some (2, .lst items)⟩ (γName 4) (potB a b c d) ds [x0, x1, some (.ref 1), some (.int mix), y4, y5] m = .nx [x0, x1, some (.ref 1), some (.int mix'), z4, z5] m' ∧ 0 ≤ mix' ∧ mix' < 4294967296 ∧ m'[1]? = some (.lst (List.map D.int pool'))
  | [], mix, pool, y4, y5, m, _, h0, h1, g1, g2, _ => ⟨mix, pool, y4, y5, m, by simp [forF, Src.ok, g2], h0, h1, g1⟩
  | z :: ds, mix, pool, y4, y5, m, hz, h0, h1, g1, g2, hl => by
    obtain ⟨i, rfl⟩ := hz z List.mem_cons_self
    simp only [List.length_cons] at hl
    let low : Int := (if i < 0 then -i else i) % bigN
    let mix1 : Int := (mix * a + low % b + c) % d
    have q0 : 0 ≤ low % b := Int.emod_nonneg _ (by omega)
    have q1 : 0 ≤ mix1 := Int.emod_nonneg _ (by omega)
    have q2 : mix1 < d := Int.emod_lt_of_pos _ hd.1
    have e1 : dSet 5 (dBin opMod (dCall (fn1 opAbs) (dCons (dCall (fn1 opIntOf) (dCons (dVar 4) dNil)) dNil)) (dBin opPowV (dBin opPowV (dC (.int 10)) (dC (.int 60))) (dC (.int 5)))) [x0, x1, some (.ref 1), some (.int mix), some (.int i), y5] m = .nx [x0, x1, some (.ref 1), some (.int mix), some (.int i), some (.int low)] m := by
      refine set_any (bin_any (x := .int (if i < 0 then -i else i)) (m1 := m) (by simp) (pow_big _ _) ?_)
      rw [ev_mod_i, if_pos (mod_ok bigN_pos)]
    have e2 : ∃ pool' m1, (dIfS (dTest (dBin opGe (dVar 5) (dBin opPowV (dC (.int 10)) (dC (.int 18))))) (dDrop (dMt isLst mAppend (dVar 2) (dCons (dVar 5) dNil))) dNext) [x0, x1, some (.ref 1), some (.int mix), some (.int i), some (.int low)] m = .nx [x0, x1, some (.ref 1), some (.int mix), some (.int i), some (.int low)] m1 ∧ m1[1]? = some (.lst (List.map D.int pool')) ∧ m1[2]? = some (.lst items) ∧ pool'.length ≤ pool.length + 1 := by
      have t : dTest (dBin opGe (dVar 5) (dBin opPowV (dC (.int 10)) (dC (.int 18)))) [x0, x1, some (.ref 1), some (.int mix), some (.int i), some (.int low)] m = .ok (decide ((10 : Int) ^ (18 : Int).toNat ≤ low)) m := by
        rw [ev_test, bin_any (var_any rfl) (pow_18 _ _) (ev_ge_i _ _), ev_bind]
      rw [ev_ifS, t, ev_goes]
      by_cases hx : (10 : Int) ^ (18 : Int).toNat ≤ low
      · refine ⟨pool ++ [low], m.set 1 (.lst ((pool ++ [low]).map .int)), ?_, get_set g1, get_set_ne g2 (by decide), by simp⟩
        have hz2 : pool.length < sizeLine := sz63 (by omega)
        rw [if_pos (by simpa using hx)]
        simp [g1, hz2]
      · exact ⟨pool, m, by rw [if_neg (by simpa using hx)]; rfl, g1, g2, by omega⟩
    obtain ⟨pool', m1, e2, g1', g2', l1⟩ := e2
    have e3 : dSet 3 (dBin opMod (dBin opAdd (dBin opAdd (dBin opMul (dVar 3) (dC (.int a))) (dBin opMod (dVar 5) (dC (.int b)))) (dC (.int c))) (dC (.int d))) [x0, x1, some (.ref 1), some (.int mix), some (.int i), some (.int low)] m1 = .nx [x0, x1, some (.ref 1), some (.int mix1), some (.int i), some (.int low)] m1 := by
      have c1 : cMul mix a = true := mul_ok h0 (by omega) ha.1 (by omega)
      have c2 := fun i => @mod_ok i b hb.1
      have c3 := fun i => @mod_ok i d hd.1
      simp [c1, c2, c3, mix1]
    obtain ⟨mix', p2, z4, z5, m2, e4, r1, r2, r3⟩ := pot_loop ha hb hc hd (x0 := x0) (x1 := x1) (items := items) ds mix1 pool' (some (.int i)) (some (.int low)) m1 (fun z hz' => hz z (List.mem_cons_of_mem _ hz')) q1 (by omega) g1' g2' (by omega)
    refine ⟨mix', p2, z4, z5, m2, ?_, r1, r2, r3⟩
    unfold forF
    rw [if_pos (by simp [Src.ok, g2])]
    show (R.only (.ok [x0, x1, some (.ref 1), some (.int mix), some (.int i), y5] m) fun ρ1 m1 => (potB a b c d ρ1 m1).turn _) = _
    rw [ev_only]
    unfold potB
    rw [ev_seq, e1, ev_thn_nx, ev_seq, e2, ev_thn_nx, e3, ev_turn_nx]
    exact e4
theorem pot_ok {a b c d : Int} (ha : 0 ≤ a ∧ a < 2 ^ 40) (hb : 0 < b ∧ b < 2 ^ 40) (hc : 0 ≤ c) (hd : 0 < d ∧ d < 4294967296) {salt : Int} (hs : 0 ≤ salt ∧ salt < 4294967296) {ns : List Int} {o : MO} (ho : o = .lst (ns.map .int) ∨ o = .frl (ns.map .int)) (hl : ns.length ≤ 63) :
    ∃ l p m', runB 2 6 (potG a b c d) [.ref 0, .int salt] [o] = .ok (.ref l) m' ∧ Pot m' l p 1000000000 := by
  have items : ∀ z ∈ cutD (ns.map D.int) none (some 63), ∃ i, z = D.int i := fun z hz => by
    have := List.mem_of_mem_take hz
    rw [show HT.sIx (ns.map D.int).length 0 none = 0 from rfl, List.drop_zero] at this
    obtain ⟨i, _, rfl⟩ := List.mem_map.mp this
    exact ⟨i, rfl⟩
  have len : (cutD (ns.map D.int) none (some 63)).length ≤ 63 := by
    unfold cutD
    have := List.length_take_le' (HT.sIx (ns.map D.int).length (ns.map D.int).length (some 63) - HT.sIx (ns.map D.int).length 0 none) ((ns.map D.int).drop (HT.sIx (ns.map D.int).length 0 none))
    simp at this ⊢
    omega
  generalize hC : cutD (ns.map D.int) none (some 63) = C at items len
  rw [run_eq (np := 2) rfl]
  show ∃ l p m', (potG a b c d [some (.ref 0), some (.int salt), none, none, none, none] [o]).val = _ ∧ _
  unfold potG
  have sq : seqOf [o, .lst []] (.ref 0) = some (ns.map .int) := by rcases ho with rfl | rfl <;> rfl
  have t1 : dSet 2 (dLst dNil) [some (.ref 0), some (.int salt), none, none, none, none] [o] = .nx [some (.ref 0), some (.int salt), some (.ref 1), none, none, none] [o, .lst []] := by simp
  have t2 : dSet 3 (dVar 1) [some (.ref 0), some (.int salt), some (.ref 1), none, none, none] [o, .lst []] = .nx [some (.ref 0), some (.int salt), some (.ref 1), some (.int salt), none, none] [o, .lst []] := by simp
  have t3 : dIt (dSl opSl (dVar 0) dNoPt (dPt (dC (.int 63)))) [some (.ref 0), some (.int salt), some (.ref 1), some (.int salt), none, none] [o, .lst []] = .ok ⟨C, some (2, .lst C)⟩ [o, .lst [], .lst C] := by
    have sl : opSl (.ref 0) none (some 63) [o, .lst []] = .ok (.ref 2) [o, .lst [], .lst C] := by
      unfold opSl
      simp only [sq, hC]
      rfl
    have e1 : dSl opSl (dVar 0) dNoPt (dPt (dC (.int 63))) [some (.ref 0), some (.int salt), some (.ref 1), some (.int salt), none, none] [o, .lst []] = .ok (.ref 2) [o, .lst [], .lst C] := by
      rw [ev_sl]
      exact sl
    rw [ev_it, e1, ev_bind]
    rfl
  obtain ⟨mix', pool', z4, z5, m', e, r1, r2, r3⟩ := pot_loop ha hb hc hd (x0 := some (.ref 0)) (x1 := some (.int salt)) (items := C) C salt [] none none [o, .lst [], .lst C] items hs.1 hs.2 rfl rfl (by simpa using Nat.le_trans len (by decide))
  refine ⟨m'.length, 1, m' ++ [.lst [.ref 1, .int mix', .int 0]], ?_, ⟨mix', 0, pool', get_new, r1, r2, by decide, by decide, get_old r3⟩⟩
  rw [ev_seq, t1, ev_thn_nx, ev_seq, t2, ev_thn_nx, ev_seq, ev_for, t3, ev_goes, e, ev_thn_nx]
  simp
/-! ### one of a list -/
def oneG (F : List D → Mem → R D) : DSt := (dRet (dBin opIxM (dVar 1) (dApp F [] (dCons (dVar 0) (dCons (dCall (fn1 opLen) (dCons (dVar 1) dNil)) dNil)))))
structure One (F : List D → Mem → R D) : Prop where
  ok : ∀ {m : Mem} {l p f r : Nat} {xs : List D}, Pot m l p (f + 1) → m[r]? = some (.lst xs) → r ≠ l → r ≠ p → 0 < xs.length → xs.length ≤ 100000 → ∃ x m', F [.ref l, .ref r] m = .ok x m' ∧ x ∈ xs ∧ Frm [l, p] m m' ∧ Pot m' l p f ∧ m'.length = m.length
theorem len_any {ρ : En} {m : Mem} {i r : Nat} {xs : List D} (h : ρ[i]? = some (some (.ref r))) (g : m[r]? = some (.lst xs)) : dCall (fn1 opLen) (dCons (dVar i) dNil) ρ m = .ok (.int xs.length) m := by
  rw [ev_call, cons_any (var_any h) nil_any, ev_bind, ev_fn1, ln_l g]
theorem ix_mem {xs : List D} {j : Int} (h0 : 0 ≤ j) (h : j < xs.length) : ∃ x, atI xs j = some x ∧ x ∈ xs := by
  have hj : j.toNat < xs.length := by omega
  exact ⟨xs[j.toNat], at_int h0 (List.getElem?_eq_getElem hj), List.getElem_mem _⟩
theorem oneG_ok {F : List D → Mem → R D} (hF : Draw F) : One (runB 2 2 (oneG F)) := ⟨fun {m l p f r xs} hp hm h1 h2 h0 hz => by
  obtain ⟨j, m1, e, a, b, f1, p1, l1⟩ := hF.ok hp (many := xs.length) (by omega) (by omega)
  have g1 := f1.get hm (by simp; omega)
  obtain ⟨x, hx, hm2⟩ := ix_mem a b
  refine ⟨x, m1, ?_, hm2, f1, p1, l1⟩
  rw [run_eq (np := 2) rfl]
  show (oneG F [some (.ref l), some (.ref r)] m).val = _
  unfold oneG
  rw [ev_ret, bin_any (var_any rfl) (app_any (cons_any (var_any rfl) (cons_any (len_any rfl hm) nil_any)) e) (by rw [ev_ix_l g1, hx]), ev_goes, ev_val_rt]⟩
end DL
/-! A row mixed; names. -/
namespace DL
open PySem PySem.Spec L2
def mixB (F : List D → Mem → R D) : DSt := (dDrop (dMt isLst mAppend (dVar 3) (dCons (dMt isLst mPopAt (dVar 2) (dCons (dApp F [] (dCons (dVar 0) (dCons (dCall (fn1 opLen) (dCons (dVar 2) dNil)) dNil))) dNil)) dNil)))
def mixedG (F : List D → Mem → R D) : DSt := (dSeq (dSet 2 (dCall (fn1 opListA) (dCons (dVar 1) dNil)))
  (dSeq (dSet 3 (dLst dNil))
  (dSeq (dFor (dRange1 (dCall (fn1 opLen) (dCons (dVar 1) dNil))) (γName 4) (mixB F))
  (dRet (dVar 3)))))
theorem perm_erase : ∀ {xs : List D} {i : Nat} (h : i < xs.length), (xs[i] :: xs.eraseIdx i).Perm xs
  | x :: xs, 0, _ => List.Perm.refl _
  | x :: xs, i + 1, h => by
    have := perm_erase (xs := xs) (i := i) (by simpa using h)
    exact (List.Perm.swap x _ _).trans (this.cons x)
theorem popAt_i {m : Mem} {r : Nat} {xs : List D} {j : Int} (h : m[r]? = some (.lst xs)) (h0 : 0 ≤ j) (h1 : j < xs.length) (h2 : xs.length ≤ 100000) : ∃ x, mPopAt (.ref r) [.int j] m = .ok x (m.set r (.lst (xs.eraseIdx j.toNat))) ∧ (x :: xs.eraseIdx j.toNat).Perm xs := by
  have hj : j.toNat < xs.length := by omega
  have hb : 0 ≤ j ∧ j < xs.length ∧ j < 2 ^ 62 := ⟨h0, h1, by omega⟩
  refine ⟨xs[j.toNat], ?_, perm_erase hj⟩
  unfold mPopAt
  simp only [h]
  rw [if_pos hb, List.getElem?_eq_getElem hj]
theorem mix_loop {F : List D → Mem → R D} (hF : Draw F) {l p L M : Nat} {s : Src} (hs : s.lk = none) {x1 : Option D} (n1 : L ≠ l) (n2 : L ≠ p) (n3 : M ≠ l) (n4 : M ≠ p) (n5 : L ≠ M) : ∀ (ds zs acc : List D) (y4 : Option D) (m : Mem) (f : Nat), Pot m l p (f + ds.length) → m[L]? = some (.lst zs) → m[M]? = some (.lst acc) → zs.length = ds.length → acc.length + zs.length ≤ 1000 →
    ∃ ys z4 m', forF s (γName 4) (mixB F) ds [some (.ref l), x1, some (.ref L), some (.ref M), y4] m = .nx [some (.ref l), x1, some (.ref L), some (.ref M), z4] m' ∧ ys.Perm (acc ++ zs) ∧ m'[M]? = some (.lst ys) ∧ Frm [l, p, L, M] m m' ∧ Pot m' l p f
  | [], zs, acc, y4, m, f, hp, g1, g2, hl, _ => by
    have : zs = [] := List.length_eq_zero_iff.mp hl
    subst this
    exact ⟨acc, y4, m, by simp [forF, Src.ok, hs], by simp, g2, Frm.refl, hp⟩
  | d :: ds, zs, acc, y4, m, f, hp, g1, g2, hl, hz => by
    simp only [List.length_cons] at hl hp
    obtain ⟨j, m1, e, a, b, f1, p1, l1⟩ := hF.ok (f := f + ds.length) (many := zs.length) hp (by omega) (by omega)
    have k1 := f1.get g1 (by simp; omega)
    have k2 := f1.get g2 (by simp; omega)
    obtain ⟨x, e2, pm⟩ := popAt_i k1 a b (by omega)
    let m2 := m1.set L (.lst (zs.eraseIdx j.toNat))
    have k3 : m2[L]? = some (.lst (zs.eraseIdx j.toNat)) := get_set k1
    have k4 : m2[M]? = some (.lst acc) := get_set_ne k2 n5
    let m3 := m2.set M (.lst (acc ++ [x]))
    have k5 : m3[L]? = some (.lst (zs.eraseIdx j.toNat)) := get_set_ne k3 n5.symm
    have k6 : m3[M]? = some (.lst (acc ++ [x])) := get_set k4
    have hl2 : (zs.eraseIdx j.toNat).length = ds.length := by
      have := pm.length_eq
      simp only [List.length_cons] at this
      omega
    have e3 : mAppend (.ref M) [x] m2 = .ok .non m3 := by
      rw [ev_append, k4]
      exact if_pos (sz63 (by omega))
    have p3 : Pot m3 l p (f + ds.length) := (p1.set_ne n1 n2).set_ne n3 n4
    obtain ⟨ys, z4, m4, e4, q1, q2, q3, q4⟩ := mix_loop hF hs (x1 := x1) n1 n2 n3 n4 n5 ds (zs.eraseIdx j.toNat) (acc ++ [x]) (some d) m3 f p3 k5 k6 hl2 (by simp; omega)
    have eB : mixB F [some (.ref l), x1, some (.ref L), some (.ref M), some d] m = .nx [some (.ref l), x1, some (.ref L), some (.ref M), some d] m3 := by
      unfold mixB
      have i1 : dMt isLst mPopAt (dVar 2) (dCons (dApp F [] (dCons (dVar 0) (dCons (dCall (fn1 opLen) (dCons (dVar 2) dNil)) dNil))) dNil) [some (.ref l), x1, some (.ref L), some (.ref M), some d] m = .ok x m2 :=
        mt_ok (var_any rfl) (isLst_l g1) (cons_any (app_any (cons_any (var_any rfl) (cons_any (len_any rfl g1) nil_any)) e) nil_any) e2
      have i2 : dMt isLst mAppend (dVar 3) (dCons (dMt isLst mPopAt (dVar 2) (dCons (dApp F [] (dCons (dVar 0) (dCons (dCall (fn1 opLen) (dCons (dVar 2) dNil)) dNil))) dNil)) dNil) [some (.ref l), x1, some (.ref L), some (.ref M), some d] m = .ok .non m3 :=
        mt_ok (var_any rfl) (isLst_l g2) (cons_any i1 nil_any) e3
      rw [ev_drop, i2, ev_goes]
    refine ⟨ys, z4, m4, ?_, q1.trans ?_, q2, ?_, q4⟩
    · rw [forF_none hs]
      show (R.only (.ok [some (.ref l), x1, some (.ref L), some (.ref M), some d] m) fun ρ1 m1 => (mixB F ρ1 m1).turn _) = _
      rw [ev_only, eB, ev_turn_nx]
      exact e4
    · have : (acc ++ [x] ++ zs.eraseIdx j.toNat) = acc ++ (x :: zs.eraseIdx j.toNat) := by simp
      rw [this]
      exact pm.append_left acc
    · exact (((f1.mono (by simp +contextual)).set (.inl (by simp))).set (.inl (by simp))).trans q3
structure Mixed (F : List D → Mem → R D) : Prop where
  text : ∀ {m : Mem} {l p f : Nat} {x : Str}, Pot m l p (f + x.cps.size) → x.cps.size ≤ 1000 → ∃ r ys m', F [.ref l, .str x] m = .ok (.ref r) m' ∧ m.length ≤ r ∧ m'[r]? = some (.lst ys) ∧ ys.Perm (signsD x) ∧ Frm [l, p] m m' ∧ Pot m' l p f
theorem mixedG_ok {F : List D → Mem → R D} (hF : Draw F) : Mixed (runB 2 5 (mixedG F)) := ⟨fun {m l p f x} hp hz => by
  have hl : (signsD x).length = x.cps.size := by simp [signsD]
  have ha := hp.lt
  have e1 : dSet 2 (dCall (fn1 opListA) (dCons (dVar 1) dNil)) [some (.ref l), some (.str x), none, none, none] m = .nx [some (.ref l), some (.str x), some (.ref m.length), none, none] (m ++ [.lst (signsD x)]) := by
    have opE : opListA (D.str x) m = (R.ok (D.ref m.length) (m ++ [MO.lst (signsD x)]) : R D) := by
      show (if x.cps.size ≤ sizeLine then (R.ok (D.ref m.length) (m ++ [MO.lst (signsD x)]) : R D) else .stk) = _
      rw [if_pos (sz_le (by omega))]
    exact set_any (by rw [ev_call, cons_any (var_any rfl) nil_any, ev_bind, ev_fn1, opE])
  have e2 : dSet 3 (dLst dNil) [some (.ref l), some (.str x), some (.ref m.length), none, none] (m ++ [.lst (signsD x)]) = .nx [some (.ref l), some (.str x), some (.ref m.length), some (.ref (m.length + 1)), none] (m ++ [.lst (signsD x)] ++ [.lst []]) := by simp
  have g1 : (m ++ [MO.lst (signsD x)] ++ [.lst []])[m.length]? = some (.lst (signsD x)) := get_old get_new
  have g2 : (m ++ [MO.lst (signsD x)] ++ [.lst []])[m.length + 1]? = some (.lst []) := by
    have := @get_new (m ++ [MO.lst (signsD x)]) (.lst [])
    simpa using this
  have el : dCall (fn1 opLen) (dCons (dVar 1) dNil) [some (.ref l), some (.str x), some (.ref m.length), some (.ref (m.length + 1)), none] (m ++ [.lst (signsD x)] ++ [.lst []]) = .ok (.int x.cps.size) (m ++ [.lst (signsD x)] ++ [.lst []]) := by
    rw [ev_call, cons_any (var_any rfl) nil_any, ev_bind, ev_fn1]
    exact if_pos (sz_le (by show x.cps.size ≤ _; omega))
  obtain ⟨ys, z4, m', e3, q1, q2, q3, q4⟩ := mix_loop hF (s := ⟨rngD 0 1 x.cps.size, none⟩) rfl (l := l) (p := p) (L := m.length) (M := m.length + 1) (x1 := some (.str x)) (by omega) (by omega) (by omega) (by omega) (by omega) (rngD 0 1 x.cps.size) (signsD x) [] none (m ++ [.lst (signsD x)] ++ [.lst []]) f (by rw [rngD_len]; exact hp.app.app) g1 g2 (by rw [rngD_len, hl]) (by simp [hl]; omega)
  refine ⟨m.length + 1, ys, m', ?_, by omega, q2, by simpa using q1, ?_, q4⟩
  · rw [run_eq (np := 2) rfl]
    show (mixedG F [some (.ref l), some (.str x), none, none, none] m).val = _
    unfold mixedG
    rw [ev_seq, e1, ev_thn_nx, ev_seq, e2, ev_thn_nx, ev_seq, for_range1 el (small_len (by omega)), e3, ev_thn_nx]
    rfl
  · have f0 : Frm [l, p, m.length, m.length + 1] m m' := Frm.app.more.trans q3
    exact ⟨f0.le, fun i hi n => f0.old i hi (by simp only [List.mem_cons, List.not_mem_nil, or_false, not_or] at n ⊢; omega)⟩⟩
/-! ### names -/
def alphaS : Str := "abcdefghijklmnopqrstuvwxyz"
def tailsD : List D := [.str "", .str "7", .str "k", .str "zq", .str "1w", .str "yonder", .str "3c3c3c"]
def tailsFs : DFs := (dCons (dC (.str "")) (dCons (dC (.str "7")) (dCons (dC (.str "k")) (dCons (dC (.str "zq")) (dCons (dC (.str "1w")) (dCons (dC (.str "yonder")) (dCons (dC (.str "3c3c3c")) dNil)))))))
def namesH (Fm Fo : List D → Mem → R D) : DSt := (dSeq (dSet 2 (dApp Fm [] (dCons (dVar 0) (dCons (dC (.str "abcdefghijklmnopqrstuvwxyz")) dNil))))
  (dSeq (dSet 3 (dLst (dCons (dC (.str "")) (dCons (dC (.str "7")) (dCons (dC (.str "k")) (dCons (dC (.str "zq")) (dCons (dC (.str "1w")) (dCons (dC (.str "yonder")) (dCons (dC (.str "3c3c3c")) dNil)))))))))
  (dRet (dLc (dRange1 (dVar 1)) (γName 4) dYes (dBin opAdd (dBin opAdd (dBin opIxM (dVar 2) (dVar 4)) (dCall (fn1 opStr) (dCons (dBin opMod (dCall (fn1 opIntOf) (dCons (dBin opAdd (dBin opMul (dVar 4) (dC (.int 3))) (dC (.int 4))) dNil)) (dC (.int 10))) dNil))) (dApp Fo [] (dCons (dVar 0) (dCons (dVar 3) dNil)))) [4]))))
def nmB (d : D) : Bool := match d with | .str x => PyData.strOk x && decide (x.length ≤ 10) | _ => false
theorem nmB_of {d : D} (h : nmB d = true) : ∃ x, d = .str x ∧ PyData.strOk x = true ∧ x.length ≤ 10 := by
  cases d <;> simp [nmB] at h
  exact ⟨_, rfl, h.1, h.2⟩
theorem alpha_all : ((signsD alphaS).all nmB) = true := by decide +kernel
theorem tails_all : (tailsD.all nmB) = true := by decide +kernel
/-- a list of short texts -/
def Nms (ds : List D) : Prop := ∀ d ∈ ds, ∃ x : Str, d = .str x ∧ PyData.strOk x = true ∧ x.length ≤ 100
structure Names (F : List D → Mem → R D) : Prop where
  ok : ∀ {m : Mem} {l p f : Nat} {many : Nat}, Pot m l p (f + 26 + many) → many ≤ 26 → ∃ r ns m', F [.ref l, .int many] m = .ok (.ref r) m' ∧ m.length ≤ r ∧ m'[r]? = some (.lst ns) ∧ ns.length = many ∧ Nms ns ∧ Frm [l, p] m m' ∧ Pot m' l p f
theorem name_of {Fo : List D → Mem → R D} (hO : One Fo) {l p H T f i many : Nat} {m : Mem} {hs : List D} (hp : Pot m l p (f + 1)) (gh : m[H]? = some (.lst hs)) (gt : m[T]? = some (.lst tailsD)) (nT : T ≠ l) (nT2 : T ≠ p) (hi : i < hs.length) (h26 : hs.length ≤ 26) (ha : ∀ d ∈ hs, nmB d = true) {x1 : Option D} :
    ∃ y m', (dBin opAdd (dBin opAdd (dBin opIxM (dVar 2) (dVar 4)) (dCall (fn1 opStr) (dCons (dBin opMod (dCall (fn1 opIntOf) (dCons (dBin opAdd (dBin opMul (dVar 4) (dC (.int 3))) (dC (.int 4))) dNil)) (dC (.int 10))) dNil))) (dApp Fo [] (dCons (dVar 0) (dCons (dVar 3) dNil)))) [some (.ref l), x1, some (.ref H), some (.ref T), some (.int i)] m = .ok (.str y) m' ∧ PyData.strOk y = true ∧ y.length ≤ 100 ∧ Pot m' l p f ∧ Frm [l, p] m m' := by
  obtain ⟨t, m', e, ht, f1, p1, l1⟩ := hO.ok hp gt nT nT2 (by decide) (by decide)
  obtain ⟨z, rfl, z1, z2⟩ := nmB_of (List.all_eq_true.mp tails_all t ht)
  obtain ⟨x, ex, x1', x2⟩ := nmB_of (ha _ (List.getElem_mem hi))
  have at1 : atI hs (i : Int) = some (.str x) := by rw [at_nat (List.getElem?_eq_getElem hi), ex]
  have c1 : cMul (i : Int) 3 = true := mul_ok (by omega) (by omega) (by decide) (by decide)
  have c2 := fun j => @mod_ok j 10 (by decide)
  let q : Int := ((i : Int) * 3 + 4) % 10
  have q0 : 0 ≤ q := Int.emod_nonneg _ (by decide)
  have q1 : q < 10 := Int.emod_lt_of_pos _ (by decide)
  have hq : ((q.toNat : Nat) : Int) = q := Int.toNat_of_nonneg q0
  obtain ⟨n1, n2⟩ := str_num (i := q.toNat) (by omega)
  rw [hq] at n1 n2
  have lg : q.natAbs.log2 < 1920 := log_lt q0 (Int.lt_trans q1 (by decide)) (by decide)
  have e1 : dBin opIxM (dVar 2) (dVar 4) [some (.ref l), x1, some (.ref H), some (.ref T), some (.int i)] m = .ok (.str x) m := bin_any (var_any rfl) (var_any rfl) (by rw [ev_ix_l gh, at1])
  have e2 : (dCall (fn1 opStr) (dCons (dBin opMod (dCall (fn1 opIntOf) (dCons (dBin opAdd (dBin opMul (dVar 4) (dC (.int 3))) (dC (.int 4))) dNil)) (dC (.int 10))) dNil)) [some (.ref l), x1, some (.ref H), some (.ref T), some (.int i)] m = .ok (.str (toString q)) m := by
    simp only [ev_call, ev_cons, ev_bin, ev_var, ev_C, ev_nil, ev_bind, ev_fn1, ev_mul_i, ev_add_i, ev_int_i, ev_mod_i, c1, c2, if_true, List.getElem?_cons_succ, List.getElem?_cons_zero]
    exact if_pos lg
  have l2 : x.length + (Str.ofString (toString q)).length ≤ sizeLine := sz_le (by omega)
  have l3 : (x ++ Str.ofString (toString q)).length + z.length ≤ sizeLine := by rw [len_app]; exact sz_le (by omega)
  refine ⟨x ++ Str.ofString (toString q) ++ z, m', bin_any (x := .str (x ++ Str.ofString (toString q))) (bin_any (d := .str (x ++ Str.ofString (toString q))) e1 e2 ?_) (app_any (cons_any (var_any rfl) (cons_any (var_any rfl) nil_any)) e) ?_, strOk_app (strOk_app x1' n1) z1, ?_, p1, f1⟩
  · rw [ev_add_s]; exact if_pos l2
  · rw [ev_add_s]; exact if_pos l3
  · rw [len_app, len_app]; omega
theorem range_any {f : DF} {ρ : En} {m m' : Mem} {k : Nat} (h : f ρ m = .ok (.int k) m') (hs : smallI k = true) : dRange1 f ρ m = .ok ⟨rngD 0 1 k, none⟩ m' := by
  rw [ev_range1, h, ev_bind]
  simp only [ev_intOf, hs, if_true, Int.toNat_natCast]
theorem rng_mem {k : Nat} {d : D} (h : d ∈ rngD 0 1 k) : ∃ i : Nat, i < k ∧ d = .int i := by
  rw [rngD_range'] at h
  obtain ⟨j, hj, rfl⟩ := List.mem_map.mp h
  exact ⟨j, by have := List.mem_range'_1.mp hj; omega, rfl⟩
theorem namesH_ok {Fm Fo : List D → Mem → R D} (hM : Mixed Fm) (hO : One Fo) : Names (runB 2 5 (namesH Fm Fo)) := ⟨fun {m l p f many} hp hm => by
  have sz : alphaS.cps.size = 26 := by decide +kernel
  have hp' : Pot m l p (f + many + alphaS.cps.size) := by rw [sz]; exact hp.le (by omega)
  obtain ⟨H, hs, m1, e1, r1, g1, pm, f1, p1⟩ := hM.text (x := alphaS) hp' (by omega)
  have hl : hs.length = 26 := by
    have := pm.length_eq
    rw [this]
    simp [signsD, sz]
  have ha : ∀ d ∈ hs, nmB d = true := fun d hd => List.all_eq_true.mp alpha_all d (pm.mem_iff.mp hd)
  have lt := hp.lt
  have le1 := f1.le
  have t1 : dSet 2 (dApp Fm [] (dCons (dVar 0) (dCons (dC (.str "abcdefghijklmnopqrstuvwxyz")) dNil))) [some (.ref l), some (.int many), none, none, none] m = .nx [some (.ref l), some (.int many), some (.ref H), none, none] m1 := set_call (cons_any (var_any rfl) (cons_any C_any nil_any)) e1
  have t2 : dSet 3 (dLst (dCons (dC (.str "")) (dCons (dC (.str "7")) (dCons (dC (.str "k")) (dCons (dC (.str "zq")) (dCons (dC (.str "1w")) (dCons (dC (.str "yonder")) (dCons (dC (.str "3c3c3c")) dNil)))))))) [some (.ref l), some (.int many), some (.ref H), none, none] m1 = .nx [some (.ref l), some (.int many), some (.ref H), some (.ref m1.length), none] (m1 ++ [.lst tailsD]) := set_any (by
    have : tailsFs [some (.ref l), some (.int many), some (.ref H), none, none] m1 = .ok tailsD m1 := rfl
    rw [ev_lst]
    unfold tailsFs at this
    rw [this, ev_bind, if_pos (by decide)])
  have rg : dRange1 (dVar 1) [some (.ref l), some (.int many), some (.ref H), some (.ref m1.length), none] (m1 ++ [.lst tailsD]) = .ok ⟨rngD 0 1 many, none⟩ (m1 ++ [.lst tailsD]) := by
    exact range_any (var_any rfl) (small_len (by omega))
  let St : Nat → Mem → Prop := fun n M => Pot M l p (f + n) ∧ M[H]? = some (.lst hs) ∧ M[m1.length]? = some (.lst tailsD)
  have hH := lt_of_get g1
  obtain ⟨ys, m3, e3, s3, g3, l3, good, f3⟩ := dlc_rel (γ := γName 4) (f := dBin opAdd (dBin opAdd (dBin opIxM (dVar 2) (dVar 4)) (dCall (fn1 opStr) (dCons (dBin opMod (dCall (fn1 opIntOf) (dCons (dBin opAdd (dBin opMul (dVar 4) (dC (.int 3))) (dC (.int 4))) dNil)) (dC (.int 10))) dNil))) (dApp Fo [] (dCons (dVar 0) (dCons (dVar 3) dNil)))) (vs := [4]) (ls := [l, p])
    (fun d => ∃ x : Str, d = .str x ∧ PyData.strOk x = true ∧ x.length ≤ 100) St 0 rg (by simp; omega)
    (fun n m' o h => ⟨h.1.set_ne (by simp; omega) (by simp; omega), get_set_ne h.2.1 (by simp; omega), get_set_ne h.2.2 (by simp)⟩)
    (fun n M h => rfl) ⟨by rw [rngD_len, Nat.zero_add]; exact p1.app.app, get_old (get_old g1), get_old get_new⟩
    (fun d hd n M hSt => by
      obtain ⟨i, hi, rfl⟩ := rng_mem hd
      obtain ⟨y, M', ey, y1, y2, pM, fM⟩ := name_of hO (l := l) (p := p) (H := H) (T := m1.length) (f := f + n) (i := i) (many := many) (x1 := some (.int many)) (hSt.1.le (by omega)) hSt.2.1 hSt.2.2 (by omega) (by omega) (by omega) (by omega) ha
      exact ⟨_, _, M', rfl, ey, ⟨y, rfl, y1, y2⟩, ⟨pM, fM.get hSt.2.1 (by simp; omega), fM.get hSt.2.2 (by simp; omega)⟩, fM⟩)
    (by rw [rngD_len]; omega)
  refine ⟨(m1 ++ [MO.lst tailsD]).length, ys, m3, ?_, by simp; omega, g3, by rw [l3, rngD_len], good, f1.trans (Frm.app.trans f3), s3.1⟩
  rw [run_eq (np := 2) rfl]
  show (namesH Fm Fo [some (.ref l), some (.int many), none, none, none] m).val = _
  unfold namesH
  rw [ev_seq, t1, ev_thn_nx, ev_seq, t2, ev_thn_nx, ev_ret, e3, ev_goes, ev_val_rt]⟩
end DL
/-! Objects, subjects, entries of a store, by their shape. -/
namespace DL
open PySem PySem.Spec L2
def IsNm (d : D) : Prop := ∃ x : Str, d = .str x ∧ PyData.strOk x = true ∧ x.length ≤ 100
def IsOb (d : D) : Prop := ∃ k n, IsNm k ∧ IsNm n ∧ d = .tup [k, n]
inductive IsSub : D → Prop
  | all : IsSub (.tup [.str "all"])
  | user {x : D} (h : IsNm x) : IsSub (.tup [.str "user", x])
  | obj {o : D} (h : IsOb o) : IsSub (.tup [.str "object", o])
  | set {o r : D} (h : IsOb o) (g : IsNm r) : IsSub (.tup [.str "set", o, r])
def IsEnt (d : D) : Prop := ∃ o s u, IsOb o ∧ IsNm s ∧ IsSub u ∧ d = .tup [o, s, u]
theorem IsNm.okS {d : D} (h : IsNm d) : d.okS = true := by obtain ⟨x, rfl, h, _⟩ := h; exact h
theorem IsNm.dep {d : D} (h : IsNm d) : d.dep = 0 := by obtain ⟨x, rfl, h, _⟩ := h; rfl
theorem IsNm.isStr {d : D} (h : IsNm d) : isStrD d = true := by obtain ⟨x, rfl, h, _⟩ := h; rfl
theorem IsOb.okS {d : D} (h : IsOb d) : d.okS = true := by
  obtain ⟨k, n, h1, h2, rfl⟩ := h
  show (D.okS k && (D.okS n && true)) = true
  rw [h1.okS, h2.okS]; rfl
theorem IsOb.dep {d : D} (h : IsOb d) : d.dep = 1 := by
  obtain ⟨k, n, h1, h2, rfl⟩ := h
  simp [D.dep, D.deps, h1.dep, h2.dep]
theorem strs_ok : PyData.strOk ("all" : Str) = true ∧ PyData.strOk ("user" : Str) = true ∧ PyData.strOk ("object" : Str) = true ∧ PyData.strOk ("set" : Str) = true := by decide +kernel
theorem IsSub.okS {d : D} (h : IsSub d) : d.okS = true := by
  obtain ⟨a, b, c, e⟩ := strs_ok
  cases h with
  | all => simp [D.okS, D.okSs, a]
  | user h => simp [D.okS, D.okSs, b, h.okS]
  | obj h => simp [D.okS, D.okSs, c, h.okS]
  | set h g => simp [D.okS, D.okSs, e, h.okS, g.okS]
theorem IsSub.dep {d : D} (h : IsSub d) : d.dep ≤ 2 := by
  cases h with
  | all => simp [D.dep, D.deps]
  | user h => simp [D.dep, D.deps, h.dep]
  | obj h => simp [D.dep, D.deps, h.dep]
  | set h g => simp [D.dep, D.deps, h.dep, g.dep]
theorem IsEnt.okS {d : D} (h : IsEnt d) : d.okS = true := by
  obtain ⟨o, s, u, h1, h2, h3, rfl⟩ := h
  simp [D.okS, D.okSs, h1.okS, h2.okS, h3.okS]
theorem IsEnt.dep {d : D} (h : IsEnt d) : d.dep ≤ 3 := by
  obtain ⟨o, s, u, h1, h2, h3, rfl⟩ := h
  have := h3.dep
  simp [D.dep, D.deps, h1.dep, h2.dep]
  omega
/-! keys -/
theorem IsNm.nk {d : D} (h : IsNm d) : ∃ x, d.nk = some (.text x) := by obtain ⟨x, rfl, h, _⟩ := h; exact ⟨x, rfl⟩
theorem IsOb.nk {d : D} (h : IsOb d) : ∃ x y, d.nk = some (.tup [.text x, .text y]) := by
  obtain ⟨k, n, h1, h2, rfl⟩ := h
  obtain ⟨x, e1⟩ := h1.nk
  obtain ⟨y, e2⟩ := h2.nk
  exact ⟨x, y, by simp [D.nk, D.nks, e1, e2]⟩
theorem IsOb.tupK {d : D} (h : IsOb d) : tupK d = true := by
  obtain ⟨x, y, e⟩ := h.nk
  obtain ⟨k, n, h1, h2, rfl⟩ := h
  simp only [DL.tupK, e]
  rfl
theorem IsSub.nk {d : D} (h : IsSub d) : ∃ k, d.nk = some k ∧ k.depth ≤ 4 := by
  cases h with
  | all => exact ⟨_, rfl, by decide⟩
  | user h => obtain ⟨x, e⟩ := h.nk; exact ⟨.tup [.text "user", .text x], by simp [D.nk, D.nks, e], by simp [NestedKey.depth, NestedKey.depthAll]⟩
  | obj h => obtain ⟨x, y, e⟩ := h.nk; exact ⟨.tup [.text "object", .tup [.text x, .text y]], by simp [D.nk, D.nks, e], by simp [NestedKey.depth, NestedKey.depthAll]⟩
  | set h g => obtain ⟨x, y, e⟩ := h.nk; obtain ⟨z, e2⟩ := g.nk; exact ⟨.tup [.text "set", .tup [.text x, .text y], .text z], by simp [D.nk, D.nks, e, e2], by simp [NestedKey.depth, NestedKey.depthAll]⟩
theorem IsEnt.tupK {d : D} (h : IsEnt d) : tupK d = true := by
  obtain ⟨o, s, u, h1, h2, h3, rfl⟩ := h
  obtain ⟨x, y, e1⟩ := h1.nk
  obtain ⟨z, e2⟩ := h2.nk
  obtain ⟨k, e3, hk⟩ := h3.nk
  have e : (D.tup [o, s, u]).nk = some (.tup [.tup [.text x, .text y], .text z, k]) := by simp [D.nk, D.nks, e1, e2, e3]
  simp only [DL.tupK, e]
  apply decide_eq_true
  simp [NestedKey.depth, NestedKey.depthAll]
  omega
/-! comparing -/
theorem dlts_c {x y : D} {xs ys : List D} (h1 : x ≠ y → (dlt x y).isSome = true) (h2 : x = y → (dlts xs ys).isSome = true) : (dlts (x :: xs) (y :: ys)).isSome = true := by
  unfold dlts
  by_cases h : x = y
  · rw [if_pos h]; exact h2 h
  · rw [if_neg h]; exact h1 h
theorem dlt_t {xs ys : List D} (h : (dlts xs ys).isSome = true) : (dlt (.tup xs) (.tup ys)).isSome = true := h
theorem IsNm.cmp {d e : D} (h : IsNm d) (g : IsNm e) : (dlt d e).isSome = true := by
  obtain ⟨x, rfl, _⟩ := h
  obtain ⟨y, rfl, _⟩ := g
  rfl
theorem IsOb.cmp {d e : D} (h : IsOb d) (g : IsOb e) : (dlt d e).isSome = true := by
  obtain ⟨k, n, h1, h2, rfl⟩ := h
  obtain ⟨k', n', g1, g2, rfl⟩ := g
  exact dlt_t (dlts_c (fun _ => h1.cmp g1) fun _ => dlts_c (fun _ => h2.cmp g2) fun _ => rfl)
theorem strs_ne : (D.str "all" ≠ D.str "user" ∧ D.str "all" ≠ D.str "object" ∧ D.str "all" ≠ D.str "set") ∧ (D.str "user" ≠ D.str "object" ∧ D.str "user" ≠ D.str "set") ∧ D.str "object" ≠ D.str "set" := by decide +kernel
theorem IsSub.cmp {d e : D} (h : IsSub d) (g : IsSub e) : (dlt d e).isSome = true := by
  obtain ⟨⟨a1, a2, a3⟩, ⟨a4, a5⟩, a6⟩ := strs_ne
  have sc : ∀ x y : Str, (dlt (.str x) (.str y)).isSome = true := fun _ _ => rfl
  cases h <;> cases g
  · exact dlt_t (dlts_c (fun _ => sc _ _) fun _ => rfl)
  · exact dlt_t (dlts_c (fun _ => sc _ _) fun z => absurd z a1)
  · exact dlt_t (dlts_c (fun _ => sc _ _) fun z => absurd z a2)
  · exact dlt_t (dlts_c (fun _ => sc _ _) fun z => absurd z a3)
  · exact dlt_t (dlts_c (fun _ => sc _ _) fun z => absurd z.symm a1)
  · rename_i h _ g
    exact dlt_t (dlts_c (fun _ => sc _ _) fun _ => dlts_c (fun _ => h.cmp g) fun _ => rfl)
  · exact dlt_t (dlts_c (fun _ => sc _ _) fun z => absurd z a4)
  · exact dlt_t (dlts_c (fun _ => sc _ _) fun z => absurd z a5)
  · exact dlt_t (dlts_c (fun _ => sc _ _) fun z => absurd z.symm a2)
  · exact dlt_t (dlts_c (fun _ => sc _ _) fun z => absurd z.symm a4)
  · rename_i h _ g
    exact dlt_t (dlts_c (fun _ => sc _ _) fun _ => dlts_c (fun _ => h.cmp g) fun _ => rfl)
  · exact dlt_t (dlts_c (fun _ => sc _ _) fun z => absurd z a6)
  · exact dlt_t (dlts_c (fun _ => sc _ _) fun z => absurd z.symm a3)
  · exact dlt_t (dlts_c (fun _ => sc _ _) fun z => absurd z.symm a5)
  · exact dlt_t (dlts_c (fun _ => sc _ _) fun z => absurd z.symm a6)
  · rename_i h1 h2 _ _ g1 g2
    exact dlt_t (dlts_c (fun _ => sc _ _) fun _ => dlts_c (fun _ => h1.cmp g1) fun _ => dlts_c (fun _ => h2.cmp g2) fun _ => rfl)
theorem IsEnt.cmp {d e : D} (h : IsEnt d) (g : IsEnt e) : (dlt d e).isSome = true := by
  obtain ⟨o, s, u, h1, h2, h3, rfl⟩ := h
  obtain ⟨o', s', u', g1, g2, g3, rfl⟩ := g
  exact dlt_t (dlts_c (fun _ => h1.cmp g1) fun _ => dlts_c (fun _ => h2.cmp g2) fun _ => dlts_c (fun _ => h3.cmp g3) fun _ => rfl)
/-! ### rows that may be sorted -/
structure Srt (xs : List D) : Prop where
  ok : D.okSs xs = true
  cmp : allCmp xs = true
  dep : D.deps xs ≤ 8
theorem Srt.of {p : D → Prop} (h1 : ∀ {d}, p d → d.okS = true) (h2 : ∀ {d}, p d → d.dep ≤ 8) (h3 : ∀ {d e}, p d → p e → (dlt d e).isSome = true) {xs : List D} (h : ∀ d ∈ xs, p d) : Srt xs :=
  ⟨okSs_all.mpr fun d hd => h1 (h d hd), by
    unfold allCmp
    rw [List.all_eq_true]
    intro x hx
    rw [List.all_eq_true]
    exact fun y hy => h3 (h x hx) (h y hy), deps_all.mpr fun d hd => h2 (h d hd)⟩
theorem srt_nm {xs : List D} (h : ∀ d ∈ xs, IsNm d) : Srt xs := Srt.of (p := IsNm) IsNm.okS (fun h => by rw [h.dep]; decide) IsNm.cmp h
theorem srt_ob {xs : List D} (h : ∀ d ∈ xs, IsOb d) : Srt xs := Srt.of (p := IsOb) IsOb.okS (fun h => by rw [h.dep]; decide) IsOb.cmp h
theorem srt_ent {xs : List D} (h : ∀ d ∈ xs, IsEnt d) : Srt xs := Srt.of (p := IsEnt) IsEnt.okS (fun h => Nat.le_trans h.dep (by decide)) IsEnt.cmp h
theorem setK_str {xs : List D} (h : ∀ d ∈ xs, IsNm d) : setK xs = true := by
  unfold setK
  rw [Bool.or_eq_true, List.all_eq_true]
  exact .inl fun d hd => (h d hd).isStr
theorem setK_tup {xs : List D} (h : ∀ d ∈ xs, tupK d = true) : setK xs = true := by
  unfold setK
  rw [Bool.or_eq_true, List.all_eq_true, List.all_eq_true]
  exact .inr h
theorem isort_mem {xs : List D} {d : D} : d ∈ isort xs ↔ d ∈ xs := (isort_perm xs).mem_iff
theorem srt_nub {xs : List D} (h : Srt xs) : Srt (nubD xs) :=
  ⟨okSs_all.mpr fun d hd => okSs_all.mp h.ok d (mem_nub.mp hd), allCmp_sub h.cmp fun y hy => mem_nub.mp hy, deps_all.mpr fun d hd => deps_all.mp h.dep d (mem_nub.mp hd)⟩
theorem sort_set {i r : Nat} {ρ : En} {m : Mem} {xs : List D} (hv : ρ[i]? = some (some (.ref r))) (g : m[r]? = some (.lst xs)) (h : Srt xs) (hk : setK xs = true) (hz : xs.length < 299) :
    dCall (fn1 opTuple) (dCons (dCall (fn1 opSortedA) (dCons (dCall (fn1 opSetOf) (dCons (dVar i) dNil)) dNil)) dNil) ρ m = .ok (.tup (isort (nubD xs))) (m ++ [.stt (nubD xs)] ++ [.lst (isort (nubD xs))]) := by
  have h2 := srt_nub h
  have e1 : opSetOf (.ref r) m = .ok (.ref m.length) (m ++ [.stt (nubD xs)]) := by
    unfold opSetOf
    simp only [ev_seq_r, g]
    exact if_pos ⟨hk, hz⟩
  have e2 : opSortedA (.ref m.length) (m ++ [MO.stt (nubD xs)]) = .ok (.ref (m ++ [MO.stt (nubD xs)]).length) (m ++ [MO.stt (nubD xs)] ++ [.lst (isort (nubD xs))]) := by
    unfold opSortedA
    simp only [get_new]
    exact if_pos ⟨h2.ok, h2.cmp, h2.dep⟩
  have i1 : dCall (fn1 opSetOf) (dCons (dVar i) dNil) ρ m = .ok (.ref m.length) (m ++ [.stt (nubD xs)]) := by
    rw [ev_call, cons_any (var_any hv) nil_any, ev_bind, ev_fn1, e1]
  have i2 : dCall (fn1 opSortedA) (dCons (dCall (fn1 opSetOf) (dCons (dVar i) dNil)) dNil) ρ m = .ok (.ref (m ++ [MO.stt (nubD xs)]).length) (m ++ [MO.stt (nubD xs)] ++ [.lst (isort (nubD xs))]) := by
    rw [ev_call, cons_any i1 nil_any, ev_bind, ev_fn1, e2]
  rw [ev_call, cons_any i2 nil_any, ev_bind, ev_fn1, opT_l get_new]
end DL
/-! A store drawn. -/
namespace DL
open PySem PySem.Spec L2
def subS (Fo : List D → Mem → R D) (k : DSt) : DSt := (dSeq (dSet 9 (dTup (dCons (dC (.str "all")) dNil)))
  (dSeq (dIfS (dTest (dBin opLt (dVar 8) (dC (.int 2)))) (dSet 9 (dTup (dCons (dC (.str "user")) (dCons (dApp Fo [] (dCons (dVar 0) (dCons (dVar 3) dNil))) dNil)))) dNext)
  (dSeq (dIfS (dTest (dBin opEq (dVar 8) (dC (.int 2)))) (dSet 9 (dTup (dCons (dC (.str "object")) (dCons (dApp Fo [] (dCons (dVar 0) (dCons (dVar 1) dNil))) dNil)))) dNext)
  (dSeq (dIfS (dTest (dBin opEq (dVar 8) (dC (.int 3)))) (dSet 9 (dTup (dCons (dC (.str "set")) (dCons (dApp Fo [] (dCons (dVar 0) (dCons (dVar 1) dNil))) (dCons (dApp Fo [] (dCons (dVar 0) (dCons (dVar 4) dNil))) dNil))))) dNext)
  k))))
def putS (Fo : List D → Mem → R D) : DSt := (dDrop (dMt isLst mAppend (dVar 6) (dCons (dTup (dCons (dApp Fo [] (dCons (dVar 0) (dCons (dVar 1) dNil))) (dCons (dApp Fo [] (dCons (dVar 0) (dCons (dVar 2) dNil))) (dCons (dVar 9) dNil)))) dNil)))
def storeB (Fd Fo : List D → Mem → R D) : DSt := (dSeq (dSet 8 (dApp Fd [] (dCons (dVar 0) (dCons (dC (.int 5)) dNil)))) (subS Fo (putS Fo)))
def storeG (Fd Fo : List D → Mem → R D) : DSt := (dSeq (dSet 6 (dLst dNil))
  (dSeq (dFor (dRange1 (dVar 5)) (γName 7) (storeB Fd Fo))
  (dRet (dCall (fn1 opTuple) (dCons (dCall (fn1 opSortedA) (dCons (dCall (fn1 opSetOf) (dCons (dVar 6) dNil)) dNil)) dNil)))))
/-- what a draw of entries looks at -/
structure Sto (l p r ro rs ru rr : Nat) (os ss us rl : List D) (f : Nat) (m : Mem) : Prop where
  pot : Pot m l p f
  go : m[ro]? = some (.lst os)
  gs : m[rs]? = some (.lst ss)
  gu : m[ru]? = some (.lst us)
  gr : m[rr]? = some (.lst rl)
structure StoOk (l p r ro rs ru rr : Nat) (os ss us rl : List D) : Prop where
  n0 : r ≠ l ∧ r ≠ p
  n1 : ro ≠ l ∧ ro ≠ p ∧ ro ≠ r
  n2 : rs ≠ l ∧ rs ≠ p ∧ rs ≠ r
  n3 : ru ≠ l ∧ ru ≠ p ∧ ru ≠ r
  n4 : rr ≠ l ∧ rr ≠ p ∧ rr ≠ r
  o : (∀ d ∈ os, IsOb d) ∧ 0 < os.length ∧ os.length ≤ 1000
  s : (∀ d ∈ ss, IsNm d) ∧ 0 < ss.length ∧ ss.length ≤ 1000
  u : (∀ d ∈ us, IsNm d) ∧ 0 < us.length ∧ us.length ≤ 1000
  r : (∀ d ∈ rl, IsNm d) ∧ 0 < rl.length ∧ rl.length ≤ 1000
theorem Sto.frm {l p r ro rs ru rr : Nat} {os ss us rl : List D} {f f' : Nat} {m m' : Mem} (h : Sto l p r ro rs ru rr os ss us rl f m) (k : StoOk l p r ro rs ru rr os ss us rl) (a : Frm [l, p, r] m m') (hp : Pot m' l p f') : Sto l p r ro rs ru rr os ss us rl f' m' :=
  ⟨hp, a.get h.go (by have := k.n1; simp; omega), a.get h.gs (by have := k.n2; simp; omega), a.get h.gu (by have := k.n3; simp; omega), a.get h.gr (by have := k.n4; simp; omega)⟩
theorem if_tr {t : DFb} {a b : DSt} {ρ : En} {m m1 : Mem} (h1 : t ρ m = .ok true m1) : dIfS t a b ρ m = a ρ m1 := by
  rw [ev_ifS, h1, ev_goes, if_pos rfl]
theorem seq_nx {a b : DSt} {ρ ρ1 : En} {m m1 : Mem} (h : a ρ m = .nx ρ1 m1) : dSeq a b ρ m = b ρ1 m1 := by
  rw [ev_seq, h, ev_thn_nx]
section
variable {Fd Fo : List D → Mem → R D} {l p r ro rs ru rr : Nat} {os ss us rl : List D}
abbrev stoE (l r ro rs ru rr : Nat) (x5 x7 x8 x9 : Option D) : En := [some (.ref l), some (.ref ro), some (.ref rs), some (.ref ru), some (.ref rr), x5, some (.ref r), x7, x8, x9]
theorem sub_ok (hO : One Fo) (k : StoOk l p r ro rs ru rr os ss us rl) {x5 x7 x9 : Option D} {j : Int} (h0 : 0 ≤ j) (h5 : j < 5) {f : Nat} {m : Mem} (h : Sto l p r ro rs ru rr os ss us rl (f + 2) m) (K : DSt) :
    ∃ u m', subS Fo K (stoE l r ro rs ru rr x5 x7 (some (.int j)) x9) m = K (stoE l r ro rs ru rr x5 x7 (some (.int j)) (some u)) m' ∧ IsSub u ∧ Frm [l, p] m m' ∧ Pot m' l p f := by
  have lt : ∀ (x9 : Option D) (m : Mem), dTest (dBin opLt (dVar 8) (dC (.int 2))) (stoE l r ro rs ru rr x5 x7 (some (.int j)) x9) m = .ok (decide (j < 2)) m := fun x9 m => by simp
  have eq : ∀ (i : Int) (x9 : Option D) (m : Mem), dTest (dBin opEq (dVar 8) (dC (.int i))) (stoE l r ro rs ru rr x5 x7 (some (.int j)) x9) m = .ok (decide (j = i)) m := fun i x9 m => by
    rw [ev_test, bin_any (var_any rfl) C_any (ev_eq_i j i m), ev_bind]
  have e0 : dSet 9 (dTup (dCons (dC (.str "all")) dNil)) (stoE l r ro rs ru rr x5 x7 (some (.int j)) x9) m = .nx (stoE l r ro rs ru rr x5 x7 (some (.int j)) (some (.tup [.str "all"]))) m := set_any (tup_any (cons_any C_any nil_any) (by decide))
  have skip : ∀ {t : DFb} {a : DSt} {ρ : En} {m : Mem}, t ρ m = .ok false m → dIfS t a dNext ρ m = .nx ρ m := fun h => (if_false h).trans rfl
  unfold subS
  rw [seq_nx e0]
  by_cases c1 : j < 2
  · obtain ⟨x, m1, e, hx, f1, p1, l1⟩ := hO.ok (f := f + 1) h.pot h.gu k.n3.1 k.n3.2.1 k.u.2.1 (by have := k.u.2.2; omega)
    have t1 : dIfS (dTest (dBin opLt (dVar 8) (dC (.int 2)))) (dSet 9 (dTup (dCons (dC (.str "user")) (dCons (dApp Fo [] (dCons (dVar 0) (dCons (dVar 3) dNil))) dNil)))) dNext (stoE l r ro rs ru rr x5 x7 (some (.int j)) (some (.tup [.str "all"]))) m = .nx (stoE l r ro rs ru rr x5 x7 (some (.int j)) (some (.tup [.str "user", x]))) m1 := (if_tr ((lt (some (.tup [.str "all"])) m).trans (by rw [decide_eq_true c1]))).trans (set_any (d := .tup [.str "user", x]) (tup_any (cons_any C_any (cons_any (app_any (cons_any (var_any rfl) (cons_any (var_any rfl) nil_any)) e) nil_any)) (by simp)))
    exact ⟨_, m1, by rw [seq_nx t1, seq_nx (skip ((eq 2 _ _).trans (by rw [decide_eq_false (by omega)]))), seq_nx (skip ((eq 3 _ _).trans (by rw [decide_eq_false (by omega)])))], .user (k.u.1 x hx), f1, p1.le (by omega)⟩
  · rw [seq_nx (skip ((lt _ _).trans (by rw [decide_eq_false c1])))]
    by_cases c2 : j = 2
    · obtain ⟨x, m1, e, hx, f1, p1, l1⟩ := hO.ok (f := f + 1) h.pot h.go k.n1.1 k.n1.2.1 k.o.2.1 (by have := k.o.2.2; omega)
      have t1 : dIfS (dTest (dBin opEq (dVar 8) (dC (.int 2)))) (dSet 9 (dTup (dCons (dC (.str "object")) (dCons (dApp Fo [] (dCons (dVar 0) (dCons (dVar 1) dNil))) dNil)))) dNext (stoE l r ro rs ru rr x5 x7 (some (.int j)) (some (.tup [.str "all"]))) m = .nx (stoE l r ro rs ru rr x5 x7 (some (.int j)) (some (.tup [.str "object", x]))) m1 := (if_tr ((eq 2 (some (.tup [.str "all"])) m).trans (by rw [decide_eq_true c2]))).trans (set_any (d := .tup [.str "object", x]) (tup_any (cons_any C_any (cons_any (app_any (cons_any (var_any rfl) (cons_any (var_any rfl) nil_any)) e) nil_any)) (by simp)))
      exact ⟨_, m1, by rw [seq_nx t1, seq_nx (skip ((eq 3 _ _).trans (by rw [decide_eq_false (by omega)])))], .obj (k.o.1 x hx), f1, p1.le (by omega)⟩
    · rw [seq_nx (skip ((eq 2 _ _).trans (by rw [decide_eq_false c2])))]
      by_cases c3 : j = 3
      · obtain ⟨x, m1, e, hx, f1, p1, l1⟩ := hO.ok (f := f + 1) h.pot h.go k.n1.1 k.n1.2.1 k.o.2.1 (by have := k.o.2.2; omega)
        have h1 : Sto l p r ro rs ru rr os ss us rl (f + 1) m1 := h.frm k (f1.mono (by simp +contextual)) p1
        obtain ⟨y, m2, e2, hy, f2, p2, l2⟩ := hO.ok (f := f) h1.pot h1.gr k.n4.1 k.n4.2.1 k.r.2.1 (by have := k.r.2.2; omega)
        have t1 : dIfS (dTest (dBin opEq (dVar 8) (dC (.int 3)))) (dSet 9 (dTup (dCons (dC (.str "set")) (dCons (dApp Fo [] (dCons (dVar 0) (dCons (dVar 1) dNil))) (dCons (dApp Fo [] (dCons (dVar 0) (dCons (dVar 4) dNil))) dNil))))) dNext (stoE l r ro rs ru rr x5 x7 (some (.int j)) (some (.tup [.str "all"]))) m = .nx (stoE l r ro rs ru rr x5 x7 (some (.int j)) (some (.tup [.str "set", x, y]))) m2 := (if_tr ((eq 3 (some (.tup [.str "all"])) m).trans (by rw [decide_eq_true c3]))).trans (set_any (d := .tup [.str "set", x, y]) (tup_any (cons_any C_any (cons_any (app_any (cons_any (var_any rfl) (cons_any (var_any rfl) nil_any)) e) (cons_any (app_any (cons_any (var_any rfl) (cons_any (var_any rfl) nil_any)) e2) nil_any))) (by simp)))
        exact ⟨_, m2, by rw [seq_nx t1], .set (k.o.1 x hx) (k.r.1 y hy), f1.trans f2, p2⟩
      · rw [seq_nx (skip ((eq 3 _ _).trans (by rw [decide_eq_false c3])))]
        exact ⟨_, m, rfl, .all, Frm.refl, h.pot.le (by omega)⟩
theorem put_ok' (hO : One Fo) (k : StoOk l p r ro rs ru rr os ss us rl) {x5 x7 x8 : Option D} {u : D} (hu : IsSub u) {f : Nat} {m : Mem} (h : Sto l p r ro rs ru rr os ss us rl (f + 2) m) {acc : List D} (g : m[r]? = some (.lst acc)) (hz : acc.length < 1000) :
    ∃ e m', putS Fo (stoE l r ro rs ru rr x5 x7 x8 (some u)) m = .nx (stoE l r ro rs ru rr x5 x7 x8 (some u)) m' ∧ IsEnt e ∧ m'[r]? = some (.lst (acc ++ [e])) ∧ Frm [l, p, r] m m' ∧ Pot m' l p f := by
  obtain ⟨x, m1, e, hx, f1, p1, l1⟩ := hO.ok (f := f + 1) h.pot h.go k.n1.1 k.n1.2.1 k.o.2.1 (by have := k.o.2.2; omega)
  have h1 : Sto l p r ro rs ru rr os ss us rl (f + 1) m1 := h.frm k (f1.mono (by simp +contextual)) p1
  obtain ⟨y, m2, e2, hy, f2, p2, l2⟩ := hO.ok (f := f) h1.pot h1.gs k.n2.1 k.n2.2.1 k.s.2.1 (by have := k.s.2.2; omega)
  have f12 := f1.trans f2
  have g2 := f12.get g (by have := k.n0; simp; omega)
  have e3 : mAppend (.ref r) [.tup [x, y, u]] m2 = .ok .non (m2.set r (.lst (acc ++ [.tup [x, y, u]]))) := by
    rw [ev_append, g2]
    exact if_pos (sz63 (by omega))
  refine ⟨_, _, ?_, ⟨x, y, u, k.o.1 x hx, k.s.1 y hy, hu, rfl⟩, get_set g2, (f12.mono (by simp +contextual)).set (.inl (by simp)), p2.set_ne k.n0.1 k.n0.2⟩
  unfold putS
  have i0 : dTup (dCons (dApp Fo [] (dCons (dVar 0) (dCons (dVar 1) dNil))) (dCons (dApp Fo [] (dCons (dVar 0) (dCons (dVar 2) dNil))) (dCons (dVar 9) dNil))) (stoE l r ro rs ru rr x5 x7 x8 (some u)) m = .ok (.tup [x, y, u]) m2 := tup_any (cons_any (app_any (cons_any (var_any rfl) (cons_any (var_any rfl) nil_any)) e) (cons_any (app_any (cons_any (var_any rfl) (cons_any (var_any rfl) nil_any)) e2) (cons_any (var_any rfl) nil_any))) (by simp)
  have i1 : dMt isLst mAppend (dVar 6) (dCons (dTup (dCons (dApp Fo [] (dCons (dVar 0) (dCons (dVar 1) dNil))) (dCons (dApp Fo [] (dCons (dVar 0) (dCons (dVar 2) dNil))) (dCons (dVar 9) dNil)))) dNil) (stoE l r ro rs ru rr x5 x7 x8 (some u)) m = _ := mt_ok (var_any rfl) (isLst_l g) (cons_any i0 nil_any) e3
  rw [ev_drop, i1, ev_goes]
theorem store_loop (hD : Draw Fd) (hO : One Fo) (k : StoOk l p r ro rs ru rr os ss us rl) {s : Src} (hs : s.lk = none) {x5 : Option D} : ∀ (ds acc : List D) (x7 x8 x9 : Option D) (f : Nat) (m : Mem), Sto l p r ro rs ru rr os ss us rl (f + 5 * ds.length) m → m[r]? = some (.lst acc) → (∀ d ∈ acc, IsEnt d) → acc.length + ds.length ≤ 200 →
    ∃ xs z7 z8 z9 m', forF s (γName 7) (storeB Fd Fo) ds (stoE l r ro rs ru rr x5 x7 x8 x9) m = .nx (stoE l r ro rs ru rr x5 z7 z8 z9) m' ∧ m'[r]? = some (.lst xs) ∧ (∀ d ∈ xs, IsEnt d) ∧ xs.length = acc.length + ds.length ∧ Frm [l, p, r] m m' ∧ Pot m' l p f
  | [], acc, x7, x8, x9, f, m, h, g, ha, hz => ⟨acc, x7, x8, x9, m, by simp [forF, Src.ok, hs], g, ha, rfl, Frm.refl, h.pot⟩
  | d :: ds, acc, x7, x8, x9, f, m, h, g, ha, hz => by
    simp only [List.length_cons] at h hz
    obtain ⟨j, m1, e1, a, b, f1, p1, _⟩ := hD.ok (f := f + 5 * ds.length + 4) (many := 5) (h.pot.le (by omega)) (by decide) (by decide)
    have h1 : Sto l p r ro rs ru rr os ss us rl (f + 5 * ds.length + 2 + 2) m1 := h.frm k (f1.mono (by simp +contextual)) (p1.le (by omega))
    obtain ⟨u, m2, e2, hu, f2, p2⟩ := sub_ok hO k (x5 := x5) (x7 := some d) (x9 := x9) a b h1 (putS Fo)
    have h2 : Sto l p r ro rs ru rr os ss us rl (f + 5 * ds.length + 2) m2 := h1.frm k (f2.mono (by simp +contextual)) p2
    have n0 := k.n0
    have g2 := (f1.trans f2).get g (by simp; omega)
    obtain ⟨x, m3, e3, hx, g3, f3, p3⟩ := put_ok' hO k (x5 := x5) (x7 := some d) (x8 := some (.int j)) hu h2 g2 (by omega)
    have h3 : Sto l p r ro rs ru rr os ss us rl (f + 5 * ds.length) m3 := h2.frm k f3 p3
    obtain ⟨xs, z7, z8, z9, m4, e4, g4, hx4, hl4, f4, p4⟩ := store_loop hD hO k hs (x5 := x5) ds (acc ++ [x]) (some d) (some (.int j)) (some u) f m3 h3 g3 (fun y hy => by
      rcases List.mem_append.mp hy with hy | hy
      · exact ha y hy
      · rw [List.mem_singleton.mp hy]; exact hx) (by simp; omega)
    refine ⟨xs, z7, z8, z9, m4, ?_, g4, hx4, by rw [hl4]; simp; omega, (((f1.trans f2).mono (by simp +contextual)).trans f3).trans f4, p4⟩
    have t1 : dSet 8 (dApp Fd [] (dCons (dVar 0) (dCons (dC (.int 5)) dNil))) (stoE l r ro rs ru rr x5 (some d) x8 x9) m = .nx (stoE l r ro rs ru rr x5 (some d) (some (.int j)) x9) m1 := set_call (cons_any (var_any rfl) (cons_any C_any nil_any)) e1
    rw [forF_none hs]
    show (R.only (.ok (stoE l r ro rs ru rr x5 (some d) x8 x9) m) fun ρ1 m1 => (storeB Fd Fo ρ1 m1).turn _) = _
    rw [ev_only]
    unfold storeB
    rw [seq_nx t1, e2, e3, ev_turn_nx]
    exact e4
end
structure Store (F : List D → Mem → R D) : Prop where
  ok : ∀ {l p ro rs ru rr : Nat} {os ss us rl : List D} {f most : Nat} {m : Mem}, StoOk l p m.length ro rs ru rr os ss us rl → Sto l p m.length ro rs ru rr os ss us rl (f + 5 * most) m → most ≤ 100 →
    ∃ es m', F [.ref l, .ref ro, .ref rs, .ref ru, .ref rr, .int most] m = .ok (.tup es) m' ∧ (∀ d ∈ es, IsEnt d) ∧ es.length ≤ most ∧ Frm [l, p] m m' ∧ Pot m' l p f
theorem storeG_ok {Fd Fo : List D → Mem → R D} (hD : Draw Fd) (hO : One Fo) : Store (runB 6 10 (storeG Fd Fo)) := ⟨fun {l p ro rs ru rr os ss us rl f most m} k h hm => by
  have t1 : dSet 6 (dLst dNil) [some (.ref l), some (.ref ro), some (.ref rs), some (.ref ru), some (.ref rr), some (.int most), none, none, none, none] m = .nx (stoE l m.length ro rs ru rr (some (.int most)) none none none) (m ++ [.lst []]) := by simp
  have rg : dRange1 (dVar 5) (stoE l m.length ro rs ru rr (some (.int most)) none none none) (m ++ [.lst []]) = .ok ⟨rngD 0 1 most, none⟩ (m ++ [.lst []]) := range_any (var_any rfl) (small_len (by omega))
  have h0 : Sto l p m.length ro rs ru rr os ss us rl (f + 5 * (rngD 0 1 most).length) (m ++ [.lst []]) := h.frm k Frm.app (by rw [rngD_len]; exact h.pot.app)
  obtain ⟨xs, z7, z8, z9, m1, e1, g1, hx, hl, f1, p1⟩ := store_loop hD hO k (s := ⟨rngD 0 1 most, none⟩) rfl (x5 := some (.int most)) (rngD 0 1 most) [] none none none f (m ++ [.lst []]) h0 get_new (by simp) (by rw [rngD_len]; simp; omega)
  rw [rngD_len] at hl
  simp only [List.length_nil, Nat.zero_add] at hl
  have s1 := sort_set (i := 6) (ρ := stoE l m.length ro rs ru rr (some (.int most)) z7 z8 z9) rfl g1 (srt_ent hx) (setK_tup fun d hd => (hx d hd).tupK) (by omega)
  refine ⟨isort (nubD xs), m1 ++ [.stt (nubD xs)] ++ [.lst (isort (nubD xs))], ?_, fun d hd => hx d (mem_nub.mp (isort_mem.mp hd)), ?_, ?_, p1.app.app⟩
  · rw [run_eq (np := 6) rfl]
    show (storeG Fd Fo [some (.ref l), some (.ref ro), some (.ref rs), some (.ref ru), some (.ref rr), some (.int most), none, none, none, none] m).val = _
    unfold storeG
    rw [seq_nx t1, ev_seq, ev_for, rg, ev_goes, e1, ev_thn_nx, ev_ret, s1, ev_goes, ev_val_rt]
  · rw [(isort_perm _).length_eq, ← hl]; exact nub_len xs
  · have f0 : Frm [l, p, m.length] m m1 := Frm.app.trans f1
    have f2 : Frm [l, p] m m1 := ⟨f0.le, fun i hi n => f0.old i hi (by simp only [List.mem_cons, List.not_mem_nil, or_false, not_or] at n ⊢; omega)⟩
    exact f2.more.more⟩
end DL
/-! Two things the same, told by going down. -/
namespace DL
open PySem PySem.Spec L2
def lsBody (R : List D → Mem → R D) : DSt := (dIfS (dNot (dTru (dApp R [] (dCons (dBin opIxM (dVar 0) (dVar 2)) (dCons (dBin opIxM (dVar 1) (dVar 2)) dNil))))) (dRet (dC (.bl false))) dNext)
def lawSameG (R : List D → Mem → R D) : DSt := (dSeq (dIfS (dTest (dBin opIsN (dVar 1) (dC .non))) (dRet (dBin opIsN (dVar 0) (dC .non))) dNext)
  (dSeq (dIfS (dTru (dUn (opIsi "bool") (dVar 1))) (dRet (dAndV (dUn (opIsi "bool") (dVar 0)) (dBin opEq (dVar 0) (dVar 1)))) dNext)
  (dSeq (dIfS (dTru (dUn (opIsi "int") (dVar 1))) (dRet (dAndV (dUn (opIsi "int") (dVar 0)) (dAndV (dNotV (dUn (opIsi "bool") (dVar 0))) (dBin opEq (dVar 0) (dVar 1))))) dNext)
  (dSeq (dIfS (dTru (dUn (opIsi "str") (dVar 1))) (dRet (dAndV (dUn (opIsi "str") (dVar 0)) (dBin opEq (dVar 0) (dVar 1)))) dNext)
  (dSeq (dIfS (dOr (dNot (dTru (dUn (opIsi "tuple") (dVar 0)))) (dTest (dBin opNe (dCall (fn1 opLen) (dCons (dVar 0) dNil)) (dCall (fn1 opLen) (dCons (dVar 1) dNil))))) (dRet (dC (.bl false))) dNext)
  (dSeq (dFor (dRange1 (dCall (fn1 opLen) (dCons (dVar 1) dNil))) (γName 2) (lsBody R))
  (dRet (dC (.bl true)))))))))
def lawSameR : Nat → List D → Mem → R D
  | 0 => fun _ _ => .stk
  | n + 1 => runB 2 3 (lawSameG (lawSameR n))
theorem ls_for {R : List D → Mem → R D} {xs : List D} {m : Mem} (hR : ∀ d ∈ xs, R [d, d] m = .ok (.bl true) m) {s : Src} (hs : s.lk = none) : ∀ (ds : List D) (y2 : Option D), (∀ d ∈ ds, ∃ i : Nat, i < xs.length ∧ d = .int i) → ∃ z2, forF s (γName 2) (lsBody R) ds [some (.tup xs), some (.tup xs), y2] m = .nx [some (.tup xs), some (.tup xs), z2] m
  | [], y2, _ => ⟨y2, by simp [forF, Src.ok, hs]⟩
  | d :: ds, y2, h => by
    obtain ⟨i, hi, rfl⟩ := h d List.mem_cons_self
    obtain ⟨z2, e⟩ := ls_for hR hs ds (some (.int i)) fun x hx => h x (List.mem_cons_of_mem _ hx)
    have ix : ∀ k, ([some (D.tup xs), some (D.tup xs), some (D.int i)] : En)[k]? = some (some (.tup xs)) → dBin opIxM (dVar k) (dVar 2) [some (.tup xs), some (.tup xs), some (.int i)] m = .ok xs[i] m := fun k hk => bin_any (var_any hk) (var_any rfl) (by rw [ev_ix_t, at_nat (List.getElem?_eq_getElem hi)])
    have eB : lsBody R [some (.tup xs), some (.tup xs), some (.int i)] m = .nx [some (.tup xs), some (.tup xs), some (.int i)] m := if_not_true (cons_any (ix 0 rfl) (cons_any (ix 1 rfl) nil_any)) (hR _ (List.getElem_mem hi))
    refine ⟨z2, ?_⟩
    rw [forF_none hs]
    show (DL.R.only (.ok [some (.tup xs), some (.tup xs), some (.int i)] m) fun ρ1 m1 => (lsBody R ρ1 m1).turn _) = _
    rw [ev_only, eB, ev_turn_nx]
    exact e
theorem nodesAll_len : ∀ xs : List D, xs.length ≤ D.nodesAll xs
  | [] => Nat.zero_le _
  | x :: xs => by
    have := nodesAll_len xs
    have : 1 ≤ x.nodes := by cases x <;> simp [D.nodes]
    simp only [List.length_cons, D.nodesAll]
    omega
theorem ls_ok : ∀ (n : Nat) (d : D) (m : Mem), d.okS = true → d.dep < n → d.nodes < 90000 → lawSameR n [d, d] m = .ok (.bl true) m
  | 0, d, m, _, h, _ => absurd h (Nat.not_lt_zero _)
  | n + 1, d, m, ok, hd, hn => by
    show runB 2 3 (lawSameG (lawSameR n)) [d, d] m = _
    rw [run_eq (np := 2) rfl]
    show (lawSameG (lawSameR n) [some d, some d, none] m).val = _
    unfold lawSameG
    cases d with
    | non => simp
    | int i => simp
    | str x =>
      have : opEqB false (.str x) (.str x) m = .ok (.bl (decide (D.str x = .str x) != false)) m := eqB_ok ok ok (Nat.zero_le _) (Nat.zero_le _)
      simp [this]
    | tup xs =>
      have hR : ∀ d ∈ xs, lawSameR n [d, d] m = .ok (.bl true) m := fun d h => ls_ok n d m (okSs_all.mp ok d h) (by
        have h1 : D.deps xs + 1 < n + 1 := hd
        have := deps_all.mp (Nat.le_refl (D.deps xs)) d h
        omega) (by
        have := nodesAll_mem h
        have h2 : (D.tup xs).nodes = D.nodesAll xs + 1 := rfl
        omega)
      have hl := nodesAll_len xs
      have h2 : (D.tup xs).nodes = D.nodesAll xs + 1 := rfl
      obtain ⟨z2, e⟩ := ls_for hR (s := ⟨rngD 0 1 xs.length, none⟩) rfl (rngD 0 1 xs.length) none fun d h => rng_mem h
      have el : dCall (fn1 opLen) (dCons (dVar 1) dNil) [some (.tup xs), some (.tup xs), none] m = .ok (.int xs.length) m := rfl
      have t6 := (for_range1 (γ := γName 2) (b := lsBody (lawSameR n)) el (small_len (by omega))).trans e
      have t1 : (dIfS (dTest (dBin opIsN (dVar 1) (dC .non))) (dRet (dBin opIsN (dVar 0) (dC .non))) dNext) [some (.tup xs), some (.tup xs), none] m = .nx [some (.tup xs), some (.tup xs), none] m := by simp
      have t2 : (dIfS (dTru (dUn (opIsi "bool") (dVar 1))) (dRet (dAndV (dUn (opIsi "bool") (dVar 0)) (dBin opEq (dVar 0) (dVar 1)))) dNext) [some (.tup xs), some (.tup xs), none] m = .nx [some (.tup xs), some (.tup xs), none] m := by simp
      have t3 : (dIfS (dTru (dUn (opIsi "int") (dVar 1))) (dRet (dAndV (dUn (opIsi "int") (dVar 0)) (dAndV (dNotV (dUn (opIsi "bool") (dVar 0))) (dBin opEq (dVar 0) (dVar 1))))) dNext) [some (.tup xs), some (.tup xs), none] m = .nx [some (.tup xs), some (.tup xs), none] m := by simp
      have t4 : (dIfS (dTru (dUn (opIsi "str") (dVar 1))) (dRet (dAndV (dUn (opIsi "str") (dVar 0)) (dBin opEq (dVar 0) (dVar 1)))) dNext) [some (.tup xs), some (.tup xs), none] m = .nx [some (.tup xs), some (.tup xs), none] m := by simp
      have t5 : (dIfS (dOr (dNot (dTru (dUn (opIsi "tuple") (dVar 0)))) (dTest (dBin opNe (dCall (fn1 opLen) (dCons (dVar 0) dNil)) (dCall (fn1 opLen) (dCons (dVar 1) dNil))))) (dRet (dC (.bl false))) dNext) [some (.tup xs), some (.tup xs), none] m = .nx [some (.tup xs), some (.tup xs), none] m := by
        have : opEqB true (.int xs.length) (.int xs.length) m = .ok (.bl (decide (D.int xs.length = .int xs.length) != true)) m := eqB_ok rfl rfl (Nat.zero_le _) (Nat.zero_le _)
        simp [this]
      rw [seq_nx t1, seq_nx t2, seq_nx t3, seq_nx t4, seq_nx t5, seq_nx t6]
      rfl
    | bl b => cases ok
    | ref r => cases ok
/-- tells that a thing and itself are the same -/
structure Same (F : List D → Mem → R D) : Prop where
  ok : ∀ {d : D} {m : Mem}, d.okS = true → d.dep ≤ 10 → d.nodes < 90000 → F [d, d] m = .ok (.bl true) m
theorem lawSame_ok : Same (lawSameR 12) := ⟨fun h1 h2 h3 => ls_ok 12 _ _ h1 (by omega) h3⟩
end DL
/-! The four functions on a store. -/
namespace DL
open PySem PySem.Spec L2
def objOf : D → Option D
  | .tup (t :: o :: _) => if t = .str "object" ∨ t = .str "set" then some o else none
  | _ => none
def userOf : D → Option D
  | .tup (t :: o :: _) => if t = .str "user" then some o else none
  | _ => none
def onEnt {α : Type} (a : α) (f : D → D → D → α) : D → α
  | .tup [o, s, u] => f o s u
  | _ => a
theorem objOf_t {t o : D} {ys : List D} : objOf (.tup (t :: o :: ys)) = if t = .str "object" ∨ t = .str "set" then some o else none := rfl
theorem userOf_t {t o : D} {ys : List D} : userOf (.tup (t :: o :: ys)) = if t = .str "user" then some o else none := rfl
def standE : D → List D := onEnt [] fun o s u => o :: (objOf u).toList
def stand (es : List D) : List D := es.flatMap standE
def namedE : D → Option D := onEnt none fun o s u => userOf u
def named (es : List D) : List D := es.filterMap namedE
def atB (i s : D) : D → Bool := onEnt false fun o x u => decide (o = i) && decide (x = s)
def namB (i : D) : D → Bool := onEnt false fun o x u => decide (objOf u = some i)
/-- how a subject begins -/
theorem IsSub.head {u : D} (h : IsSub u) : ∃ t ys, u = .tup (.str t :: ys) ∧ PyData.strOk t = true ∧ (objOf u = none ∧ ¬ (D.str t = .str "object" ∨ D.str t = .str "set") ∨ ∃ o zs, ys = o :: zs ∧ objOf u = some o ∧ IsOb o ∧ (D.str t = .str "object" ∨ D.str t = .str "set")) ∧ (userOf u = none ∧ ¬ (D.str t = .str "user") ∨ ∃ o zs, ys = o :: zs ∧ userOf u = some o ∧ IsNm o ∧ D.str t = .str "user") := by
  obtain ⟨⟨a1, a2, a3⟩, ⟨a4, a5⟩, a6⟩ := strs_ne
  obtain ⟨s1, s2, s3, s4⟩ := strs_ok
  cases h with
  | all => exact ⟨_, _, rfl, s1, .inl ⟨rfl, fun z => z.elim a2 a3⟩, .inl ⟨rfl, fun z => a1 z⟩⟩
  | user h => exact ⟨_, _, rfl, s2, .inl ⟨objOf_t.trans (if_neg fun z => z.elim a4 a5), fun z => z.elim a4 a5⟩, .inr ⟨_, _, rfl, userOf_t.trans (if_pos rfl), h, rfl⟩⟩
  | obj h => exact ⟨_, _, rfl, s3, .inr ⟨_, _, rfl, objOf_t.trans (if_pos (.inl rfl)), h, .inl rfl⟩, .inl ⟨userOf_t.trans (if_neg fun z => a4 z.symm), fun z => a4 z.symm⟩⟩
  | set h g => exact ⟨_, _, rfl, s4, .inr ⟨_, _, rfl, objOf_t.trans (if_pos (.inr rfl)), h, .inr rfl⟩, .inl ⟨userOf_t.trans (if_neg fun z => a5 z.symm), fun z => a5 z.symm⟩⟩
def subjG : DSt := (dRet (dIf (dTest (dBin opIn (dBin opIxM (dVar 0) (dC (.int 0))) (dTup (dCons (dC (.str "object")) (dCons (dC (.str "set")) dNil))))) (dBin opIxM (dVar 0) (dC (.int 1))) (dC .non)))
structure Subj (F : List D → Mem → R D) : Prop where
  ok : ∀ {u : D} {m : Mem}, IsSub u → F [u] m = .ok ((objOf u).getD .non) m
theorem ix0 {x : D} {xs : List D} {m : Mem} : opIxM (.tup (x :: xs)) (.int 0) m = .ok x m := by rw [ev_ix_t, show atI (x :: xs) 0 = some x from at_nat (i := 0) rfl]
theorem ix1 {x y : D} {xs : List D} {m : Mem} : opIxM (.tup (x :: y :: xs)) (.int 1) m = .ok y m := by rw [ev_ix_t, show atI (x :: y :: xs) 1 = some y from at_nat (i := 1) rfl]
theorem ix2 {x y z : D} {xs : List D} {m : Mem} : opIxM (.tup (x :: y :: z :: xs)) (.int 2) m = .ok z m := by rw [ev_ix_t, show atI (x :: y :: z :: xs) 2 = some z from at_nat (i := 2) rfl]
theorem kinds_in {t : Str} (h : PyData.strOk t = true) {m : Mem} : opInB false (.str t) (.tup [.str "object", .str "set"]) m = .ok (.bl (decide (D.str t = .str "object" ∨ D.str t = .str "set"))) m := by
  rw [in_tup_ok (x := .str t) (xs := [.str "object", .str "set"]) h (Nat.zero_le _) (by decide +kernel) (by decide +kernel)]
  simp
theorem subj_ok : Subj (runB 1 1 subjG) := ⟨fun {u m} h => by
  obtain ⟨t, ys, rfl, ok, h1, _⟩ := h.head
  rw [run_eq (np := 1) rfl]
  show (subjG [some (.tup (.str t :: ys))] m).val = _
  unfold subjG
  have e1 : dTest (dBin opIn (dBin opIxM (dVar 0) (dC (.int 0))) (dTup (dCons (dC (.str "object")) (dCons (dC (.str "set")) dNil)))) [some (.tup (.str t :: ys))] m = .ok (decide (D.str t = .str "object" ∨ D.str t = .str "set")) m := by
    rw [ev_test, bin_any (bin_any (var_any rfl) C_any ix0) (tup_any (cons_any C_any (cons_any C_any nil_any)) (by decide)) (kinds_in ok), ev_bind]
  rw [ev_ret, ev_if, e1, ev_bind]
  rcases h1 with ⟨h1, h2⟩ | ⟨o, zs, rfl, h1, _, h2⟩
  · rw [decide_eq_false h2, if_neg (by decide), h1]
    rfl
  · rw [decide_eq_true h2, if_pos rfl, bin_any (var_any rfl) C_any ix1, h1]
    rfl⟩
/-! ### objects_of -/
def addK (ks : List D) (k : D) : List D := if k ∈ ks then ks else ks ++ [k]
theorem lookD_mem {kvs : List (D × D)} {k : D} : (lookD kvs k).isSome = true ↔ k ∈ kvs.map (·.1) := by
  unfold lookD
  rw [Option.isSome_map, List.find?_isSome, List.mem_map]
  exact ⟨fun ⟨p, h1, h2⟩ => ⟨p, h1, of_decide_eq_true h2⟩, fun ⟨p, h1, h2⟩ => ⟨p, h1, decide_eq_true h2⟩⟩
theorem putD_keys {kvs : List (D × D)} {k v : D} : (putD kvs k v).map (·.1) = addK (kvs.map (·.1)) k := by
  unfold putD addK
  by_cases h : (lookD kvs k).isSome = true
  · rw [if_pos h, if_pos (lookD_mem.mp h), List.map_map]
    apply List.map_congr_left
    intro p _
    show (if p.1 = k then (p.1, v) else p).1 = p.1
    split <;> rfl
  · rw [if_neg h, if_neg fun z => h (lookD_mem.mpr z), List.map_append]
    rfl
theorem addK_mem {ks : List D} {k y : D} : y ∈ addK ks k ↔ y ∈ ks ∨ y = k := by
  unfold addK
  split
  · exact ⟨.inl, fun z => z.elim id fun e => e ▸ by assumption⟩
  · rw [List.mem_append, List.mem_singleton]
theorem addK_nodup {ks : List D} {k : D} (h : ks.Nodup) : (addK ks k).Nodup := by
  unfold addK
  split
  · exact h
  · rename_i hk
    refine List.nodup_append.mpr ⟨h, by simp, fun a ha b hb => ?_⟩
    rw [List.mem_singleton.mp hb]
    rintro rfl
    exact hk ha
theorem addK_len {ks : List D} {k : D} : (addK ks k).length ≤ ks.length + 1 := by
  unfold addK
  split <;> simp
theorem setM_ob {m : Mem} {r : Nat} {kvs : List (D × D)} {k v : D} (g : m[r]? = some (.dct kvs)) (hk : ∀ d ∈ kvs.map (·.1), IsOb d) (h : IsOb k) (hz : kvs.length < 100000) : opSetM (.ref r) k v m = .ok () (m.set r (.dct (putD kvs k v))) := by
  have : ((kvs.all fun p => tupK p.1) = true) := List.all_eq_true.mpr fun p hp => (hk _ (List.mem_map_of_mem hp)).tupK
  unfold opSetM
  simp only [g]
  exact if_pos ⟨sz63 hz, .inr ⟨h.tupK, this⟩⟩
def objB (Fs : List D → Mem → R D) : DSt := (dSeq (dSub (dC (.bl true)) (dVar 1) (dVar 2) opSetM)
  (dSeq (dSet 5 (dApp Fs [] (dCons (dVar 4) dNil)))
  (dIfS (dTest (dBin opNotN (dVar 5) (dC .non))) (dSub (dC (.bl true)) (dVar 1) (dVar 5) opSetM) dNext)))
def objG (Fs : List D → Mem → R D) : DSt := (dSeq (dSet 1 dNewD)
  (dSeq (dFor (dIt (dVar 0)) (γTL 3 (γCons (γName 2) (γCons (γName 3) (γCons (γName 4) γNil)))) (objB Fs))
  (dRet (dCall (fn1 opTuple) (dCons (dCall (fn1 opSortedA) (dCons (dVar 1) dNil)) dNil)))))
theorem Frm.put0 {m m2 : Mem} {o : MO} (b : Frm [m.length] (m ++ [o]) m2) : Frm [] m m2 := b.cut
theorem stand_cons {o s u : D} {es : List D} : stand (.tup [o, s, u] :: es) = o :: ((objOf u).toList ++ stand es) := rfl
theorem obj_loop {Fs : List D → Mem → R D} (hS : Subj Fs) {r : Nat} {x0 : Option D} {s : Src} (hs : s.lk = none) : ∀ (ds : List D) (x2 x3 x4 x5 : Option D) (kvs : List (D × D)) (m : Mem), (∀ d ∈ ds, IsEnt d) → m[r]? = some (.dct kvs) → (kvs.map (·.1)).Nodup → (∀ d ∈ kvs.map (·.1), IsOb d) → kvs.length + 2 * ds.length ≤ 1000 →
    ∃ kvs' z2 z3 z4 z5 m', forF s (γTL 3 (γCons (γName 2) (γCons (γName 3) (γCons (γName 4) γNil)))) (objB Fs) ds [x0, some (.ref r), x2, x3, x4, x5] m = .nx [x0, some (.ref r), z2, z3, z4, z5] m' ∧ m'[r]? = some (.dct kvs') ∧ (kvs'.map (·.1)).Nodup ∧ (∀ y, y ∈ kvs'.map (·.1) ↔ y ∈ kvs.map (·.1) ∨ y ∈ stand ds) ∧ (∀ d ∈ kvs'.map (·.1), IsOb d) ∧ Frm [r] m m'
  | [], x2, x3, x4, x5, kvs, m, _, g, nd, ho, _ => ⟨kvs, x2, x3, x4, x5, m, by simp [forF, Src.ok, hs], g, nd, by simp [stand], ho, Frm.refl⟩
  | d :: ds, x2, x3, x4, x5, kvs, m, hd, g, nd, ho, hz => by
    obtain ⟨o, t, u, h1, h2, h3, rfl⟩ := hd d List.mem_cons_self
    simp only [List.length_cons] at hz
    have l0 : ∀ {kvs : List (D × D)} {k v : D}, (putD kvs k v).length ≤ kvs.length + 1 := fun {kvs k v} => by
      have := @addK_len (kvs.map (·.1)) k
      rw [← putD_keys (v := v), List.length_map, List.length_map] at this
      exact this
    have o1 : ∀ d ∈ (putD kvs o (.bl true)).map (·.1), IsOb d := fun d hd => by
      rw [putD_keys] at hd
      exact (addK_mem.mp hd).elim (ho d) fun e => e ▸ h1
    have nd1 : ((putD kvs o (.bl true)).map (·.1)).Nodup := by rw [putD_keys]; exact addK_nodup nd
    have g1 : (m.set r (.dct (putD kvs o (.bl true))))[r]? = some (.dct (putD kvs o (.bl true))) := get_set g
    have s1 : dSub (dC (.bl true)) (dVar 1) (dVar 2) opSetM [x0, some (.ref r), some o, some t, some u, x5] m = .nx [x0, some (.ref r), some o, some t, some u, x5] (m.set r (.dct (putD kvs o (.bl true)))) := by
      rw [ev_sub, C_any, ev_goes, var_any rfl, ev_goes, var_any rfl, ev_goes, setM_ob g ho h1 (by omega), ev_goes]
    have s2 : ∀ m, dSet 5 (dApp Fs [] (dCons (dVar 4) dNil)) [x0, some (.ref r), some o, some t, some u, x5] m = .nx [x0, some (.ref r), some o, some t, some u, some ((objOf u).getD .non)] m := fun m => set_call (cons_any (var_any rfl) nil_any) (hS.ok h3)
    have s3 : ∃ kvs2 m2, (dIfS (dTest (dBin opNotN (dVar 5) (dC .non))) (dSub (dC (.bl true)) (dVar 1) (dVar 5) opSetM) dNext) [x0, some (.ref r), some o, some t, some u, some ((objOf u).getD .non)] (m.set r (.dct (putD kvs o (.bl true)))) = .nx [x0, some (.ref r), some o, some t, some u, some ((objOf u).getD .non)] m2 ∧ m2[r]? = some (.dct kvs2) ∧ (kvs2.map (·.1)).Nodup ∧ (∀ y, y ∈ kvs2.map (·.1) ↔ y ∈ kvs.map (·.1) ∨ y = o ∨ y ∈ (objOf u).toList) ∧ (∀ d ∈ kvs2.map (·.1), IsOb d) ∧ kvs2.length ≤ kvs.length + 2 ∧ Frm [r] m m2 := by
      have ll := @l0 kvs o (.bl true)
      obtain ⟨tt, ys, _, _, h5, _⟩ := h3.head
      rcases h5 with ⟨h5, _⟩ | ⟨o2, zs, _, h5, h6, _⟩
      · refine ⟨putD kvs o (.bl true), _, ?_, g1, nd1, fun y => ?_, o1, by omega, Frm.refl.set (.inl (by simp))⟩
        · rw [h5]
          simp
        · rw [putD_keys, addK_mem, h5]
          simp
      · have n2 : D.non ≠ o2 := by obtain ⟨_, _, _, _, rfl⟩ := h6; intro z; cases z
        refine ⟨putD (putD kvs o (.bl true)) o2 (.bl true), _, ?_, get_set g1, by rw [putD_keys]; exact addK_nodup nd1, fun y => ?_, fun d hd => ?_, ?_, (Frm.refl.set (.inl (by simp))).set (.inl (by simp))⟩
        · rw [h5]
          have e1 : dTest (dBin opNotN (dVar 5) (dC .non)) [x0, some (.ref r), some o, some t, some u, some ((some o2).getD .non)] (m.set r (.dct (putD kvs o (.bl true)))) = .ok true (m.set r (.dct (putD kvs o (.bl true)))) := by
            simp [n2.symm]
          rw [if_tr e1, ev_sub, C_any, ev_goes, var_any rfl, ev_goes, var_any rfl, ev_goes]
          show (R.goes (opSetM (.ref r) o2 (.bl true) _) _ _) = _
          rw [setM_ob g1 o1 h6 (by omega), ev_goes]
        · rw [putD_keys, addK_mem, putD_keys, addK_mem, h5]
          simp [or_assoc]
        · rw [putD_keys] at hd
          exact (addK_mem.mp hd).elim (o1 d) fun e => e ▸ h6
        · have := @l0 (putD kvs o (.bl true)) o2 (.bl true)
          omega
    obtain ⟨kvs2, m2, e3, g2, nd2, mem2, o2, len2, f2⟩ := s3
    obtain ⟨kvs3, z2, z3, z4, z5, m3, e4, g3, nd3, mem3, o3, f3⟩ := obj_loop hS hs (x0 := x0) ds (some o) (some t) (some u) (some ((objOf u).getD .non)) kvs2 m2 (fun x hx => hd x (List.mem_cons_of_mem _ hx)) g2 nd2 o2 (by omega)
    refine ⟨kvs3, z2, z3, z4, z5, m3, ?_, g3, nd3, fun y => ?_, o3, f2.trans f3⟩
    · rw [forF_none hs]
      show (DL.R.only (.ok [x0, some (.ref r), some o, some t, some u, x5] m) fun ρ1 m1 => (objB Fs ρ1 m1).turn _) = _
      rw [ev_only]
      unfold objB
      rw [seq_nx s1, seq_nx (s2 _), e3, ev_turn_nx]
      exact e4
    · rw [mem3, mem2, stand_cons]
      simp [or_assoc]
structure Objs (F : List D → Mem → R D) : Prop where
  ok : ∀ {es : List D} {m : Mem}, (∀ d ∈ es, IsEnt d) → es.length ≤ 200 → ∃ m', F [.tup es] m = .ok (.tup (isort (nubD (stand es)))) m' ∧ Frm [] m m'
theorem objG_ok {Fs : List D → Mem → R D} (hS : Subj Fs) : Objs (runB 1 6 (objG Fs)) := ⟨fun {es m} h hz => by
  obtain ⟨kvs, z2, z3, z4, z5, m1, e, g, nd, mem, ho, f1⟩ := obj_loop hS (s := ⟨es, none⟩) rfl (r := m.length) (x0 := some (.tup es)) es none none none none [] (m ++ [.dct []]) h get_new (by simp) (by simp) (by simp; omega)
  have S := srt_ob ho
  have is : isort (kvs.map (·.1)) = isort (nubD (stand es)) := isort_eq (nub_perm nd fun y => by rw [mem]; simp)
  have s1 : dSet 1 dNewD [some (.tup es), none, none, none, none, none] m = .nx [some (.tup es), some (.ref m.length), none, none, none, none] (m ++ [.dct []]) := rfl
  have e2 : opSortedA (.ref m.length) m1 = .ok (.ref m1.length) (m1 ++ [.lst (isort (kvs.map (·.1)))]) := by
    unfold opSortedA
    simp only [g]
    exact if_pos ⟨S.ok, S.cmp, S.dep⟩
  have e3 : dCall (fn1 opSortedA) (dCons (dVar 1) dNil) [some (.tup es), some (.ref m.length), z2, z3, z4, z5] m1 = .ok (.ref m1.length) (m1 ++ [.lst (isort (kvs.map (·.1)))]) := by
    rw [ev_call, cons_any (var_any rfl) nil_any, ev_bind, ev_fn1, e2]
  refine ⟨m1 ++ [.lst (isort (kvs.map (·.1)))], ?_, f1.put0.more⟩
  rw [run_eq (np := 1) rfl]
  show (objG Fs [some (.tup es), none, none, none, none, none] m).val = _
  unfold objG
  have it : dIt (dVar 0) [some (.tup es), some (.ref m.length), none, none, none, none] (m ++ [.dct []]) = .ok ⟨es, none⟩ (m ++ [.dct []]) := rfl
  rw [seq_nx s1, ev_seq, ev_for, it, ev_goes, e, ev_thn_nx, ev_ret, ev_call, cons_any e3 nil_any, ev_bind, ev_fn1, opT_l get_new, is]
  rfl⟩
end DL
/-! users_of, tuples_at, naming. -/
namespace DL
open PySem PySem.Spec L2
theorem addD_mem {ks : List D} {k y : D} : y ∈ addD ks k ↔ y ∈ ks ∨ y = k := by
  unfold addD
  split
  · exact ⟨.inl, fun z => z.elim id fun e => e ▸ by assumption⟩
  · rw [List.mem_cons]; exact or_comm
theorem addD_nodup {ks : List D} {k : D} (h : ks.Nodup) : (addD ks k).Nodup := by
  unfold addD
  split
  · exact h
  · rename_i hk
    exact List.nodup_cons.mpr ⟨hk, h⟩
theorem addD_len {ks : List D} {k : D} : (addD ks k).length ≤ ks.length + 1 := by
  unfold addD
  split <;> simp
theorem sc_gen {s : Src} (hs : s.lk = none) {γ : D → En → Mem → R En} {t : DFb} {f : DF} {ρw : En} {l : Nat} (h : D → Option D) : ∀ (ds acc : List D) (m : Mem), (∀ d ∈ ds, ∀ m, ∃ ρ1, γ d ρw m = .ok ρ1 m ∧ (h d = none ∧ t ρ1 m = .ok false m ∨ ∃ y, h d = some y ∧ t ρ1 m = .ok true m ∧ f ρ1 m = .ok y m ∧ IsNm y)) → m[l]? = some (.stt acc) → acc.Nodup → (∀ y ∈ acc, IsNm y) → acc.length + ds.length < 1000 →
    ∃ acc' m', scF l s γ t f ρw ds m = .ok () m' ∧ m'[l]? = some (.stt acc') ∧ acc'.Nodup ∧ (∀ y ∈ acc', IsNm y) ∧ (∀ y, y ∈ acc' ↔ y ∈ acc ∨ y ∈ ds.filterMap h) ∧ Frm [l] m m'
  | [], acc, m, _, g, nd, ha, _ => ⟨acc, m, by unfold scF; rw [if_pos (by simp [Src.ok, hs])], g, nd, ha, by simp, Frm.refl⟩
  | d :: ds, acc, m, hb, g, nd, ha, hz => by
    simp only [List.length_cons] at hz
    obtain ⟨ρ1, e1, ⟨e2, e3⟩ | ⟨y, e2, e3, e4, hy⟩⟩ := hb d List.mem_cons_self m
    · obtain ⟨acc', m', e, g', nd', ha', mem, f1⟩ := sc_gen hs (t := t) (f := f) h ds acc m (fun x hx => hb x (List.mem_cons_of_mem _ hx)) g nd ha (by omega)
      refine ⟨acc', m', ?_, g', nd', ha', by rw [List.filterMap_cons_none e2]; exact mem, f1⟩
      unfold scF
      rw [if_pos (by simp [Src.ok, hs]), e1, ev_bnd, e3, ev_bnd, if_neg (by decide), e]
    · have ha1 : ∀ z ∈ y :: acc, IsNm z := fun z hz => by
        rcases List.mem_cons.mp hz with rfl | hz
        · exact hy
        · exact ha z hz
      have hall : (y :: acc).all isStrD = true := List.all_eq_true.mpr fun z hz => (ha1 z hz).isStr
      have ll := @addD_len acc y
      obtain ⟨acc', m', e, g', nd', ha', mem, f1⟩ := sc_gen hs (t := t) (f := f) h ds (addD acc y) (m.set l (.stt (addD acc y))) (fun x hx => hb x (List.mem_cons_of_mem _ hx)) (get_set g) (addD_nodup nd) (fun z hz => (addD_mem.mp hz).elim (ha z) fun e => e ▸ hy) (by omega)
      refine ⟨acc', m', ?_, g', nd', ha', fun z => ?_, (Frm.refl.set (.inl (by simp))).trans f1⟩
      · unfold scF
        rw [if_pos (by simp [Src.ok, hs]), e1, ev_bnd, e3, ev_bnd, if_pos rfl, e4, ev_bnd]
        simp only [g]
        rw [if_pos ⟨by omega, hall⟩, e]
      · rw [mem, List.filterMap_cons_some e2, addD_mem, List.mem_cons, or_assoc]
def usersG : DSt := (dRet (dCall (fn1 opTuple) (dCons (dCall (fn1 opSortedA) (dCons (dSc (dIt (dVar 0)) (γTL 3 (γCons (γName 1) (γCons (γName 2) (γCons (γName 3) γNil)))) (dTest (dBin opEq (dBin opIxM (dVar 3) (dC (.int 0))) (dC (.str "user")))) (dBin opIxM (dVar 3) (dC (.int 1))) [1, 2, 3]) dNil)) dNil)))
structure Users (F : List D → Mem → R D) : Prop where
  ok : ∀ {es : List D} {m : Mem}, (∀ d ∈ es, IsEnt d) → es.length ≤ 200 → ∃ m', F [.tup es] m = .ok (.tup (isort (nubD (named es)))) m' ∧ Frm [] m m'
theorem eqs_ok {x y : Str} {m : Mem} (hx : PyData.strOk x = true) (hy : PyData.strOk y = true) : opEqB false (.str x) (.str y) m = .ok (.bl (decide (D.str x = .str y))) m := by
  rw [eqB_ok (x := .str x) (y := .str y) hx hy (Nat.zero_le _) (Nat.zero_le _)]
  simp
theorem usersG_ok : Users (runB 1 4 usersG) := ⟨fun {es m} h hz => by
  have su := strs_ok.2.1
  obtain ⟨acc, m1, e, g, nd, ha, mem, f1⟩ := sc_gen (s := ⟨es, none⟩) rfl (γ := γTL 3 (γCons (γName 1) (γCons (γName 2) (γCons (γName 3) γNil)))) (t := dTest (dBin opEq (dBin opIxM (dVar 3) (dC (.int 0))) (dC (.str "user")))) (f := dBin opIxM (dVar 3) (dC (.int 1))) (ρw := wipeD [some (.tup es), none, none, none] [1, 2, 3]) (l := m.length) namedE es [] (m ++ [.stt []]) (fun d hd M => by
    obtain ⟨o, s, u, h1, h2, h3, rfl⟩ := h d hd
    obtain ⟨t, ys, rfl, ok, _, h4⟩ := h3.head
    refine ⟨[some (.tup es), some o, some s, some (.tup (.str t :: ys))], rfl, ?_⟩
    have e1 : dTest (dBin opEq (dBin opIxM (dVar 3) (dC (.int 0))) (dC (.str "user"))) [some (.tup es), some o, some s, some (.tup (.str t :: ys))] M = .ok (decide (D.str t = .str "user")) M := by
      rw [ev_test, bin_any (bin_any (var_any rfl) C_any ix0) C_any (eqs_ok ok su), ev_bind]
    rcases h4 with ⟨h4, h5⟩ | ⟨y, zs, rfl, h4, h6, h5⟩
    · exact .inl ⟨h4, e1.trans (by rw [decide_eq_false h5])⟩
    · exact .inr ⟨y, h4, e1.trans (by rw [decide_eq_true h5]), bin_any (var_any rfl) C_any ix1, h6⟩) get_new (by simp) (by simp) (by simp; omega)
  have S := srt_nm ha
  have is : isort acc = isort (nubD (named es)) := isort_eq (nub_perm nd fun y => by rw [mem]; simp [named])
  have e1 : dSc (dIt (dVar 0)) (γTL 3 (γCons (γName 1) (γCons (γName 2) (γCons (γName 3) γNil)))) (dTest (dBin opEq (dBin opIxM (dVar 3) (dC (.int 0))) (dC (.str "user")))) (dBin opIxM (dVar 3) (dC (.int 1))) [1, 2, 3] [some (.tup es), none, none, none] m = .ok (.ref m.length) m1 := by
    have it : dIt (dVar 0) [some (.tup es), none, none, none] m = .ok ⟨es, none⟩ m := rfl
    unfold dSc
    rw [it, ev_bind]
    show ((scF m.length _ _ _ _ _ es (m ++ [.stt []])).bnd _) = _
    rw [e, ev_bnd]
  have e2 : opSortedA (.ref m.length) m1 = .ok (.ref m1.length) (m1 ++ [.lst (isort acc)]) := by
    unfold opSortedA
    simp only [g]
    exact if_pos ⟨S.ok, S.cmp, S.dep⟩
  refine ⟨m1 ++ [.lst (isort acc)], ?_, f1.put0.more⟩
  rw [run_eq (np := 1) rfl]
  show (usersG [some (.tup es), none, none, none] m).val = _
  unfold usersG
  have e3 : ∀ {f : DF}, f [some (.tup es), none, none, none] m = .ok (.ref m.length) m1 → dCall (fn1 opSortedA) (dCons f dNil) [some (.tup es), none, none, none] m = .ok (.ref m1.length) (m1 ++ [.lst (isort acc)]) := fun hf => by
    rw [ev_call, cons_any hf nil_any, ev_bind, ev_fn1, e2]
  rw [ev_ret, ev_call, cons_any (e3 e1) nil_any, ev_bind, ev_fn1, opT_l get_new, is]
  rfl⟩
/-! ### tuples_at -/
def atG : DSt := (dRet (dCall (fn1 opTuple) (dCons (dLc (dIt (dVar 0)) (γName 3) (dTest (dBin opEq (dSl opSl (dVar 3) dNoPt (dPt (dC (.int 2)))) (dTup (dCons (dVar 1) (dCons (dVar 2) dNil))))) (dVar 3) [3]) dNil)))
structure TupsAt (F : List D → Mem → R D) : Prop where
  ok : ∀ {es : List D} {i s : D} {m : Mem}, (∀ d ∈ es, IsEnt d) → es.length ≤ 200 → IsOb i → IsNm s → ∃ m', F [.tup es, i, s] m = .ok (.tup (es.filter (atB i s))) m' ∧ Frm [] m m'
theorem tup_lc {f : DF} {ρ : En} {m m1 : Mem} {r : Nat} {xs : List D} (h : f ρ m = .ok (.ref r) m1) (g : m1[r]? = some (.lst xs)) : dCall (fn1 opTuple) (dCons f dNil) ρ m = .ok (.tup xs) m1 := by
  rw [ev_call, cons_any h nil_any, ev_bind, ev_fn1, opT_l g]
theorem atG_ok : TupsAt (runB 3 4 atG) := ⟨fun {es i s m} h hz hi hs => by
  have e1 : dLc (dIt (dVar 0)) (γName 3) (dTest (dBin opEq (dSl opSl (dVar 3) dNoPt (dPt (dC (.int 2)))) (dTup (dCons (dVar 1) (dCons (dVar 2) dNil))))) (dVar 3) [3] [some (.tup es), some i, some s, none] m = .ok (.ref m.length) (m ++ [.lst (es.filter (atB i s))]) := by
    refine dlc_filt (s := ⟨es, none⟩) (atB i s) rfl rfl (fun d hd M => ?_) (by show es.length < _; omega)
    obtain ⟨o, x, u, h1, h2, h3, rfl⟩ := h d hd
    refine ⟨[some (.tup es), some i, some s, some (.tup [o, x, u])], rfl, ?_, fun _ => rfl⟩
    have sl : dSl opSl (dVar 3) dNoPt (dPt (dC (.int 2))) [some (.tup es), some i, some s, some (.tup [o, x, u])] M = .ok (.tup [o, x]) M := rfl
    have ok1 : (D.tup [o, x]).okS = true := by simp [D.okS, D.okSs, h1.okS, h2.okS]
    have ok2 : (D.tup [i, s]).okS = true := by simp [D.okS, D.okSs, hi.okS, hs.okS]
    have d1 : (D.tup [o, x]).dep ≤ 64 := by simp [D.dep, D.deps, h1.dep, h2.dep]
    have d2 : (D.tup [i, s]).dep ≤ 64 := by simp [D.dep, D.deps, hi.dep, hs.dep]
    rw [ev_test, bin_any sl (tup_any (cons_any (var_any rfl) (cons_any (var_any rfl) nil_any)) (by simp)) (eqB_ok (neg := false) ok1 ok2 d1 d2), ev_bind]
    show R.ok (decide (D.tup [o, x] = D.tup [i, s]) != false) M = R.ok (decide (o = i) && decide (x = s)) M
    simp
  refine ⟨m ++ [.lst (es.filter (atB i s))], ?_, Frm.app⟩
  rw [run_eq (np := 3) rfl]
  show (atG [some (.tup es), some i, some s, none] m).val = _
  unfold atG
  rw [ev_ret, tup_lc e1 get_new]
  rfl⟩
/-! ### naming -/
def namG (Fs : List D → Mem → R D) : DSt := (dRet (dCall (fn1 opTuple) (dCons (dLc (dIt (dVar 0)) (γName 2) (dTest (dBin opEq (dApp Fs [] (dCons (dBin opIxM (dVar 2) (dC (.int 2))) dNil)) (dVar 1))) (dVar 2) [2]) dNil)))
structure Nam (F : List D → Mem → R D) : Prop where
  ok : ∀ {es : List D} {i : D} {m : Mem}, (∀ d ∈ es, IsEnt d) → es.length ≤ 200 → IsOb i → ∃ m', F [.tup es, i] m = .ok (.tup (es.filter (namB i))) m' ∧ Frm [] m m'
theorem namG_ok {Fs : List D → Mem → R D} (hS : Subj Fs) : Nam (runB 2 3 (namG Fs)) := ⟨fun {es i m} h hz hi => by
  have e1 : dLc (dIt (dVar 0)) (γName 2) (dTest (dBin opEq (dApp Fs [] (dCons (dBin opIxM (dVar 2) (dC (.int 2))) dNil)) (dVar 1))) (dVar 2) [2] [some (.tup es), some i, none] m = .ok (.ref m.length) (m ++ [.lst (es.filter (namB i))]) := by
    refine dlc_filt (s := ⟨es, none⟩) (namB i) rfl rfl (fun d hd M => ?_) (by show es.length < _; omega)
    obtain ⟨o, x, u, h1, h2, h3, rfl⟩ := h d hd
    refine ⟨[some (.tup es), some i, some (.tup [o, x, u])], rfl, ?_, fun _ => rfl⟩
    have ap : dApp Fs [] (dCons (dBin opIxM (dVar 2) (dC (.int 2))) dNil) [some (.tup es), some i, some (.tup [o, x, u])] M = .ok ((objOf u).getD .non) M := app_any (cons_any (bin_any (var_any rfl) C_any ix2) nil_any) (hS.ok h3)
    have ok1 : ((objOf u).getD .non).okS = true ∧ ((objOf u).getD .non).dep ≤ 64 := by
      obtain ⟨t, ys, _, _, ⟨h5, _⟩ | ⟨q, zs, _, h5, h6, _⟩, _⟩ := h3.head
      · rw [h5]; exact ⟨rfl, Nat.zero_le _⟩
      · rw [h5]; exact ⟨h6.okS, by show q.dep ≤ 64; rw [h6.dep]; decide⟩
    rw [ev_test, bin_any ap (var_any rfl) (eqB_ok (neg := false) ok1.1 hi.okS ok1.2 (by rw [hi.dep]; decide)), ev_bind]
    show R.ok (decide ((objOf u).getD .non = i) != false) M = R.ok (decide (objOf u = some i)) M
    have ni : D.non ≠ i := by obtain ⟨_, _, _, _, rfl⟩ := hi; intro z; cases z
    cases objOf u with
    | none => simp [ni]
    | some q => simp
  refine ⟨m ++ [.lst (es.filter (namB i))], ?_, Frm.app⟩
  rw [run_eq (np := 2) rfl]
  show (namG Fs [some (.tup es), some i, none] m).val = _
  unfold namG
  rw [ev_ret, tup_lc e1 get_new]
  rfl⟩
end DL
/-! What is asked of a store. -/
namespace DL
open PySem PySem.Spec L2
theorem IsNm.nodes {d : D} (h : IsNm d) : d.nodes = 1 := by obtain ⟨x, rfl, _⟩ := h; rfl
theorem IsOb.nodes {d : D} (h : IsOb d) : d.nodes = 3 := by
  obtain ⟨k, n, h1, h2, rfl⟩ := h
  simp [D.nodes, D.nodesAll, h1.nodes, h2.nodes]
theorem IsSub.nodes {d : D} (h : IsSub d) : d.nodes ≤ 6 := by
  cases h with
  | all => simp [D.nodes, D.nodesAll]
  | user h => simp [D.nodes, D.nodesAll, h.nodes]
  | obj h => simp [D.nodes, D.nodesAll, h.nodes]
  | set h g => simp [D.nodes, D.nodesAll, h.nodes, g.nodes]
theorem IsEnt.nodes {d : D} (h : IsEnt d) : d.nodes ≤ 11 := by
  obtain ⟨o, s, u, h1, h2, h3, rfl⟩ := h
  have := h3.nodes
  simp [D.nodes, D.nodesAll, h1.nodes, h2.nodes]
  omega
theorem nodesAll_le {k : Nat} : ∀ {xs : List D}, (∀ d ∈ xs, d.nodes ≤ k) → D.nodesAll xs ≤ k * xs.length
  | [], _ => Nat.zero_le _
  | x :: xs, h => by
    have h1 := h x List.mem_cons_self
    have h2 := nodesAll_le (xs := xs) fun d hd => h d (List.mem_cons_of_mem _ hd)
    simp only [D.nodesAll, List.length_cons, Nat.mul_add, Nat.mul_one]
    omega
/-- the same, of rows -/
theorem Same.row {F : List D → Mem → R D} (hF : Same F) {xs : List D} {m : Mem} {k : Nat} (S : Srt xs) (h : ∀ d ∈ xs, d.nodes ≤ k) (hk : k ≤ 20) (hz : xs.length ≤ 1000) : F [.tup xs, .tup xs] m = .ok (.bl true) m :=
  hF.ok (d := .tup xs) S.ok (by have := S.dep; show D.deps xs + 1 ≤ 10; omega) (by
    have h1 := nodesAll_le h
    have h2 := Nat.mul_le_mul hk hz
    show D.nodesAll xs + 1 < 90000
    omega)
theorem stand_ob : ∀ {es : List D}, (∀ d ∈ es, IsEnt d) → ∀ d ∈ stand es, IsOb d := fun {es} h d hd => by
  obtain ⟨e, he, hd⟩ := List.mem_flatMap.mp hd
  obtain ⟨o, s, u, h1, h2, h3, rfl⟩ := h e he
  rcases List.mem_cons.mp (show d ∈ o :: (objOf u).toList from hd) with rfl | hd
  · exact h1
  · obtain ⟨t, ys, _, _, ⟨h5, _⟩ | ⟨q, zs, _, h5, h6, _⟩, _⟩ := h3.head
    · rw [h5] at hd; simp at hd
    · rw [h5] at hd
      obtain rfl : d = q := by simpa using hd
      exact h6
theorem named_nm {es : List D} (h : ∀ d ∈ es, IsEnt d) : ∀ d ∈ named es, IsNm d := fun d hd => by
  obtain ⟨e, he, hd⟩ := List.mem_filterMap.mp hd
  obtain ⟨o, s, u, h1, h2, h3, rfl⟩ := h e he
  have hd : userOf u = some d := hd
  obtain ⟨t, ys, _, _, _, ⟨h5, _⟩ | ⟨q, zs, _, h5, h6, _⟩⟩ := h3.head
  · rw [h5] at hd; cases hd
  · rw [h5] at hd; cases hd; exact h6
theorem stand_len : ∀ {es : List D}, (∀ d ∈ es, IsEnt d) → (stand es).length ≤ 2 * es.length
  | [], _ => Nat.zero_le _
  | e :: es, h => by
    have ih := stand_len (es := es) fun d hd => h d (List.mem_cons_of_mem _ hd)
    obtain ⟨o, s, u, h1, h2, h3, rfl⟩ := h e List.mem_cons_self
    rw [stand_cons]
    have : (objOf u).toList.length ≤ 1 := by cases objOf u <;> simp
    simp only [List.length_cons, List.length_append]
    omega
theorem named_len {es : List D} : (named es).length ≤ es.length := List.length_filterMap_le _ _
/-! ### the first loop -/
def askB1 : DSt := (dSeq (dDrop (dMt isLst mAppend (dVar 5) (dCons (dVar 7) dNil)))
  (dSeq (dIfS (dTest (dBin opEq (dBin opIxM (dVar 9) (dC (.int 0))) (dC (.str "user")))) (dDrop (dMt isLst mAppend (dVar 6) (dCons (dBin opIxM (dVar 9) (dC (.int 1))) dNil))) dNext)
  (dIfS (dOr (dTest (dBin opEq (dBin opIxM (dVar 9) (dC (.int 0))) (dC (.str "object")))) (dTest (dBin opEq (dBin opIxM (dVar 9) (dC (.int 0))) (dC (.str "set"))))) (dDrop (dMt isLst mAppend (dVar 5) (dCons (dBin opIxM (dVar 9) (dC (.int 1))) dNil))) dNext)))
theorem drop_app {ρ : En} {m : Mem} {i r : Nat} {xs : List D} {f : DF} {x : D} (hv : ρ[i]? = some (some (.ref r))) (g : m[r]? = some (.lst xs)) (h : f ρ m = .ok x m) (hz : xs.length < 100000) : dDrop (dMt isLst mAppend (dVar i) (dCons f dNil)) ρ m = .nx ρ (m.set r (.lst (xs ++ [x]))) := by
  have e : mAppend (.ref r) [x] m = .ok .non (m.set r (.lst (xs ++ [x]))) := by
    rw [ev_append, g]
    exact if_pos (sz63 hz)
  rw [ev_drop, mt_ok (var_any hv) (isLst_l g) (cons_any h nil_any) e, ev_goes]
abbrev askE (l : Nat) (es : List D) (ro rs : Nat) (x4 : Option D) (L N : Nat) (y7 y8 y9 y10 : Option D) : En := [some (.ref l), some (.tup es), some (.ref ro), some (.ref rs), x4, some (.ref L), some (.ref N), y7, y8, y9, y10, none]
theorem ask_loop1 {l ro rs L N : Nat} {es : List D} {x4 y10 : Option D} (hLN : L ≠ N) {s : Src} (hs : s.lk = none) : ∀ (ds aS aN : List D) (y7 y8 y9 : Option D) (m : Mem), (∀ d ∈ ds, IsEnt d) → m[L]? = some (.lst aS) → m[N]? = some (.lst aN) → aS.length + 2 * ds.length ≤ 1000 → aN.length + ds.length ≤ 1000 →
    ∃ z7 z8 z9 m', forF s (γTL 3 (γCons (γName 7) (γCons (γName 8) (γCons (γName 9) γNil)))) askB1 ds (askE l es ro rs x4 L N y7 y8 y9 y10) m = .nx (askE l es ro rs x4 L N z7 z8 z9 y10) m' ∧ m'[L]? = some (.lst (aS ++ stand ds)) ∧ m'[N]? = some (.lst (aN ++ named ds)) ∧ Frm [L, N] m m'
  | [], aS, aN, y7, y8, y9, m, _, gS, gN, _, _ => ⟨y7, y8, y9, m, by simp [forF, Src.ok, hs], by simpa [stand] using gS, by simpa [named] using gN, Frm.refl⟩
  | d :: ds, aS, aN, y7, y8, y9, m, hd, gS, gN, zS, zN => by
    obtain ⟨o, x, u, h1, h2, h3, rfl⟩ := hd d List.mem_cons_self
    simp only [List.length_cons] at zS zN
    obtain ⟨s1, s2, s3, s4⟩ := strs_ok
    obtain ⟨t, ys, rfl, ok, hO, hU⟩ := h3.head
    have t1 : dDrop (dMt isLst mAppend (dVar 5) (dCons (dVar 7) dNil)) (askE l es ro rs x4 L N (some o) (some x) (some (.tup (.str t :: ys))) y10) m = .nx (askE l es ro rs x4 L N (some o) (some x) (some (.tup (.str t :: ys))) y10) (m.set L (.lst (aS ++ [o]))) := drop_app rfl gS (var_any rfl) (by omega)
    have g1 : (m.set L (.lst (aS ++ [o])))[L]? = some (.lst (aS ++ [o])) := get_set gS
    have g2 : (m.set L (.lst (aS ++ [o])))[N]? = some (.lst aN) := get_set_ne gN hLN
    generalize hm1 : m.set L (.lst (aS ++ [o])) = m1 at t1 g1 g2
    have f1 : Frm [L, N] m m1 := by rw [← hm1]; exact Frm.refl.set (.inl (by simp))
    have tq : ∀ (q : Str) (M : Mem), PyData.strOk q = true → dTest (dBin opEq (dBin opIxM (dVar 9) (dC (.int 0))) (dC (.str q))) (askE l es ro rs x4 L N (some o) (some x) (some (.tup (.str t :: ys))) y10) M = .ok (decide (D.str t = .str q)) M := fun q M hq => by
      rw [ev_test, bin_any (bin_any (var_any rfl) C_any ix0) C_any (eqs_ok ok hq), ev_bind]
    have t2 : ∃ m2, (dIfS (dTest (dBin opEq (dBin opIxM (dVar 9) (dC (.int 0))) (dC (.str "user")))) (dDrop (dMt isLst mAppend (dVar 6) (dCons (dBin opIxM (dVar 9) (dC (.int 1))) dNil))) dNext) (askE l es ro rs x4 L N (some o) (some x) (some (.tup (.str t :: ys))) y10) m1 = .nx (askE l es ro rs x4 L N (some o) (some x) (some (.tup (.str t :: ys))) y10) m2 ∧ m2[L]? = some (.lst (aS ++ [o])) ∧ m2[N]? = some (.lst (aN ++ (userOf (.tup (.str t :: ys))).toList)) ∧ Frm [L, N] m1 m2 := by
      rcases hU with ⟨h5, h6⟩ | ⟨y, zs, rfl, h5, _, h6⟩
      · exact ⟨m1, (if_false ((tq "user" m1 s2).trans (by rw [decide_eq_false h6]))).trans rfl, g1, by rw [h5]; simpa using g2, Frm.refl⟩
      · exact ⟨m1.set N (.lst (aN ++ [y])), (if_tr ((tq "user" m1 s2).trans (by rw [decide_eq_true h6]))).trans (drop_app rfl g2 (bin_any (var_any rfl) C_any ix1) (by omega)), get_set_ne g1 hLN.symm, by rw [h5]; exact get_set g2, Frm.refl.set (.inl (by simp))⟩
    obtain ⟨m2, e2, g3, g4, f2⟩ := t2
    have to : dOr (dTest (dBin opEq (dBin opIxM (dVar 9) (dC (.int 0))) (dC (.str "object")))) (dTest (dBin opEq (dBin opIxM (dVar 9) (dC (.int 0))) (dC (.str "set")))) (askE l es ro rs x4 L N (some o) (some x) (some (.tup (.str t :: ys))) y10) m2 = .ok (decide (D.str t = .str "object" ∨ D.str t = .str "set")) m2 := by
      rw [ev_or, tq "object" m2 s3, ev_bind, tq "set" m2 s4]
      by_cases c : D.str t = .str "object"
      · rw [decide_eq_true c, if_pos rfl, decide_eq_true (.inl c)]
      · rw [decide_eq_false c, if_neg (by decide)]
        simp [c]
    have t3 : ∃ m3, (dIfS (dOr (dTest (dBin opEq (dBin opIxM (dVar 9) (dC (.int 0))) (dC (.str "object")))) (dTest (dBin opEq (dBin opIxM (dVar 9) (dC (.int 0))) (dC (.str "set"))))) (dDrop (dMt isLst mAppend (dVar 5) (dCons (dBin opIxM (dVar 9) (dC (.int 1))) dNil))) dNext) (askE l es ro rs x4 L N (some o) (some x) (some (.tup (.str t :: ys))) y10) m2 = .nx (askE l es ro rs x4 L N (some o) (some x) (some (.tup (.str t :: ys))) y10) m3 ∧ m3[L]? = some (.lst (aS ++ [o] ++ (objOf (.tup (.str t :: ys))).toList)) ∧ m3[N]? = some (.lst (aN ++ (userOf (.tup (.str t :: ys))).toList)) ∧ Frm [L, N] m2 m3 := by
      rcases hO with ⟨h5, h6⟩ | ⟨y, zs, rfl, h5, _, h6⟩
      · exact ⟨m2, (if_false (to.trans (by rw [decide_eq_false h6]))).trans rfl, by rw [h5]; simpa using g3, g4, Frm.refl⟩
      · exact ⟨m2.set L (.lst (aS ++ [o] ++ [y])), (if_tr (to.trans (by rw [decide_eq_true h6]))).trans (drop_app rfl g3 (bin_any (var_any rfl) C_any ix1) (by simp; omega)), by rw [h5]; exact get_set g3, get_set_ne g4 hLN, Frm.refl.set (.inl (by simp))⟩
    obtain ⟨m3, e3, g5, g6, f3⟩ := t3
    have l1 : (objOf (.tup (.str t :: ys))).toList.length ≤ 1 := by cases objOf (.tup (.str t :: ys)) <;> simp
    have l2 : (userOf (.tup (.str t :: ys))).toList.length ≤ 1 := by cases userOf (.tup (.str t :: ys)) <;> simp
    obtain ⟨z7, z8, z9, m4, e4, g7, g8, f4⟩ := ask_loop1 hLN hs (x4 := x4) (y10 := y10) (l := l) (ro := ro) (rs := rs) (es := es) ds _ _ (some o) (some x) (some (.tup (.str t :: ys))) m3 (fun z hz => hd z (List.mem_cons_of_mem _ hz)) g5 g6 (by simp only [List.length_append, List.length_singleton]; omega) (by simp only [List.length_append]; omega)
    refine ⟨z7, z8, z9, m4, ?_, by rw [g7, stand_cons]; simp, ?_, ((f1.trans f2).trans f3).trans f4⟩
    · rw [forF_none hs]
      show (DL.R.only (.ok (askE l es ro rs x4 L N (some o) (some x) (some (.tup (.str t :: ys))) y10) m) fun ρ1 m1 => (askB1 ρ1 m1).turn _) = _
      rw [ev_only]
      unfold askB1
      rw [seq_nx t1, seq_nx e2, e3, ev_turn_nx]
      exact e4
    · rw [g8]
      have : named (.tup [o, x, .tup (.str t :: ys)] :: ds) = (userOf (.tup (.str t :: ys))).toList ++ named ds := by
        have e : namedE (.tup [o, x, .tup (.str t :: ys)]) = userOf (.tup (.str t :: ys)) := rfl
        unfold named
        rw [List.filterMap_cons, e]
        cases userOf (.tup (.str t :: ys)) <;> rfl
      rw [this, List.append_assoc]
end DL
/-! What is asked of a store, whole. -/
namespace DL
open PySem PySem.Spec L2
theorem namB_ent {o x u i : D} : namB i (.tup [o, x, u]) = decide (objOf u = some i) := rfl
theorem atB_ent {o x u i s : D} : atB i s (.tup [o, x, u]) = (decide (o = i) && decide (x = s)) := rfl
def dueN : DF := (dCall (fn1 opTuple) (dCons (dLc (dIt (dVar 1)) (γName 11) (dAnd (dTest (dBin opIn (dBin opIxM (dBin opIxM (dVar 11) (dC (.int 2))) (dC (.int 0))) (dTup (dCons (dC (.str "object")) (dCons (dC (.str "set")) dNil))))) (dTest (dBin opEq (dBin opIxM (dBin opIxM (dVar 11) (dC (.int 2))) (dC (.int 1))) (dVar 7)))) (dVar 11) [11]) dNil))
def dueA : DF := (dCall (fn1 opTuple) (dCons (dLc (dIt (dVar 1)) (γName 11) (dAnd (dTest (dBin opEq (dBin opIxM (dVar 11) (dC (.int 0))) (dVar 7))) (dTest (dBin opEq (dBin opIxM (dVar 11) (dC (.int 1))) (dVar 8)))) (dVar 11) [11]) dNil))
theorem eqOk {x y : D} {m : Mem} (hx : x.okS = true) (hy : y.okS = true) (dx : x.dep ≤ 64) (dy : y.dep ≤ 64) : opEqB false x y m = .ok (.bl (decide (x = y))) m := by
  rw [eqB_ok hx hy dx dy]
  simp
theorem dueN_ok {l ro rs L N : Nat} {es : List D} {x4 y8 y9 y10 : Option D} {i : D} {m : Mem} (h : ∀ d ∈ es, IsEnt d) (hz : es.length ≤ 200) (hi : IsOb i) :
    dueN (askE l es ro rs x4 L N (some i) y8 y9 y10) m = .ok (.tup (es.filter (namB i))) (m ++ [.lst (es.filter (namB i))]) := by
  unfold dueN
  refine tup_lc ?_ get_new
  refine dlc_filt (s := ⟨es, none⟩) (namB i) rfl rfl (fun d hd M => ?_) (by show es.length < _; omega)
  obtain ⟨o, x, u, h1, h2, h3, rfl⟩ := h d hd
  obtain ⟨t, ys, rfl, ok, hO, _⟩ := h3.head
  refine ⟨[some (.ref l), some (.tup es), some (.ref ro), some (.ref rs), x4, some (.ref L), some (.ref N), some i, y8, y9, y10, some (.tup [o, x, .tup (.str t :: ys)])], rfl, ?_, fun _ => rfl⟩
  rw [ev_and, ev_test, bin_any (bin_any (bin_any (var_any rfl) C_any ix2) C_any ix0) (tup_any (cons_any C_any (cons_any C_any nil_any)) (by decide)) (kinds_in ok), ev_bind, ev_bind, namB_ent]
  rcases hO with ⟨h5, h6⟩ | ⟨y, zs, rfl, h5, h7, h6⟩
  · rw [decide_eq_false h6, if_neg (by decide), h5]
    rfl
  · rw [decide_eq_true h6, if_pos rfl, ev_test, bin_any (bin_any (bin_any (var_any rfl) C_any ix2) C_any ix1) (var_any rfl) (eqOk h7.okS hi.okS (by rw [h7.dep]; decide) (by rw [hi.dep]; decide)), ev_bind, h5]
    simp
theorem dueA_ok {l ro rs L N : Nat} {es : List D} {x4 y9 y10 : Option D} {i s : D} {m : Mem} (h : ∀ d ∈ es, IsEnt d) (hz : es.length ≤ 200) (hi : IsOb i) (hs : IsNm s) :
    dueA (askE l es ro rs x4 L N (some i) (some s) y9 y10) m = .ok (.tup (es.filter (atB i s))) (m ++ [.lst (es.filter (atB i s))]) := by
  unfold dueA
  refine tup_lc ?_ get_new
  refine dlc_filt (s := ⟨es, none⟩) (atB i s) rfl rfl (fun d hd M => ?_) (by show es.length < _; omega)
  obtain ⟨o, x, u, h1, h2, h3, rfl⟩ := h d hd
  refine ⟨[some (.ref l), some (.tup es), some (.ref ro), some (.ref rs), x4, some (.ref L), some (.ref N), some i, some s, y9, y10, some (.tup [o, x, u])], rfl, ?_, fun _ => rfl⟩
  rw [ev_and, ev_test, bin_any (bin_any (var_any rfl) C_any ix0) (var_any rfl) (eqOk h1.okS hi.okS (by rw [h1.dep]; decide) (by rw [hi.dep]; decide)), ev_bind, ev_bind, atB_ent]
  by_cases c : o = i
  · rw [decide_eq_true c, if_pos rfl, ev_test, bin_any (bin_any (var_any rfl) C_any ix1) (var_any rfl) (eqOk h2.okS hs.okS (by rw [h2.dep]; decide) (by rw [hs.dep]; decide)), ev_bind]
    simp
  · rw [decide_eq_false c, if_neg (by decide)]
    simp
theorem filt_ent {p : D → Bool} {es : List D} (h : ∀ d ∈ es, IsEnt d) : ∀ d ∈ es.filter p, IsEnt d := fun d hd => h d (List.mem_filter.mp hd).1
theorem forF_lk {s : Src} {γ : D → En → Mem → R En} {b : DSt} {d : D} {ds : List D} {ρ : En} {m : Mem} (hs : s.ok m = true) : forF s γ b (d :: ds) ρ m = (γ d ρ m).only fun ρ1 m1 => (b ρ1 m1).turn (forF s γ b ds) := by
  show (if s.ok m = true then _ else _) = _
  rw [if_pos hs]
theorem forF_end {s : Src} {γ : D → En → Mem → R En} {b : DSt} {ρ : En} {m : Mem} (hs : s.ok m = true) : forF s γ b [] ρ m = .nx ρ m := by
  show (if s.ok m = true then _ else _) = _
  rw [if_pos hs]
theorem ok_lk {r : Nat} {xs ys : List D} {m : Mem} (h : m[r]? = some (.lst xs)) : (Src.mk ys (some (r, .lst xs))).ok m = true := by simp [Src.ok, h]
section
variable {Fsame Fat Fnam Fobj Fus Fo : List D → Mem → R D}
def askB3 (Fsame Fat : List D → Mem → R D) : DSt := (dSeq (dSet 10 dueA)
  (dIfS (dNot (dTru (dApp Fsame [] (dCons (dApp Fat [] (dCons (dVar 1) (dCons (dVar 7) (dCons (dVar 8) dNil)))) (dCons (dVar 10) dNil))))) (dRet (dC (.bl false))) dNext))
def askB2 (Fsame Fat Fnam Fo : List D → Mem → R D) : DSt := (dSeq (dSet 10 dueN)
  (dSeq (dIfS (dNot (dTru (dApp Fsame [] (dCons (dApp Fnam [] (dCons (dVar 1) (dCons (dVar 7) dNil))) (dCons (dVar 10) dNil))))) (dRet (dC (.bl false))) dNext)
  (dFor (dIt (dBin opAdd (dSl opSl (dVar 3) dNoPt (dPt (dC (.int 2)))) (dLst (dCons (dApp Fo [] (dCons (dVar 0) (dCons (dVar 3) dNil))) dNil)))) (γName 8) (askB3 Fsame Fat))))
theorem ask_in (hSame : Same Fsame) (hAt : TupsAt Fat) {l ro rs L N : Nat} {es : List D} {x4 y9 : Option D} {i : D} (h : ∀ d ∈ es, IsEnt d) (hz : es.length ≤ 200) (hi : IsOb i) {r : Nat} {xs zs : List D} : ∀ (ds : List D) (y8 y10 : Option D) (m : Mem), (∀ d ∈ ds, IsNm d) → m[r]? = some (.lst xs) →
    ∃ z8 z10 m', forF ⟨zs, some (r, .lst xs)⟩ (γName 8) (askB3 Fsame Fat) ds (askE l es ro rs x4 L N (some i) y8 y9 y10) m = .nx (askE l es ro rs x4 L N (some i) z8 y9 z10) m' ∧ Frm [] m m'
  | [], y8, y10, m, _, g => ⟨y8, y10, m, forF_end (ok_lk g), Frm.refl⟩
  | d :: ds, y8, y10, m, hd, g => by
    have hs := hd d List.mem_cons_self
    have t1 : dSet 10 dueA (askE l es ro rs x4 L N (some i) (some d) y9 y10) m = .nx (askE l es ro rs x4 L N (some i) (some d) y9 (some (.tup (es.filter (atB i d))))) (m ++ [.lst (es.filter (atB i d))]) := set_any (dueA_ok h hz hi hs)
    obtain ⟨m2, e2, f2⟩ := hAt.ok (m := m ++ [.lst (es.filter (atB i d))]) h hz hi hs
    have t2 := if_not_true (F := Fsame) (fs := dCons (dApp Fat [] (dCons (dVar 1) (dCons (dVar 7) (dCons (dVar 8) dNil)))) (dCons (dVar 10) dNil)) (ρ := askE l es ro rs x4 L N (some i) (some d) y9 (some (.tup (es.filter (atB i d))))) (cons_any (app_any (cons_any (var_any rfl) (cons_any (var_any rfl) (cons_any (var_any rfl) nil_any))) e2) (cons_any (var_any rfl) nil_any)) (hSame.row (srt_ent (filt_ent h)) (fun x hx => (filt_ent h x hx).nodes) (by decide) (Nat.le_trans (List.length_filter_le _ _) (by omega)))
    have f12 : Frm [] m m2 := Frm.app.trans f2
    obtain ⟨z8, z10, m3, e3, f3⟩ := ask_in hSame hAt h hz hi (x4 := x4) (y9 := y9) (l := l) (ro := ro) (rs := rs) (L := L) (N := N) (zs := zs) ds (some d) (some (.tup (es.filter (atB i d)))) m2 (fun x hx => hd x (List.mem_cons_of_mem _ hx)) (f12.get g (by simp))
    refine ⟨z8, z10, m3, ?_, f12.trans f3⟩
    rw [forF_lk (ok_lk g)]
    show (DL.R.only (.ok (askE l es ro rs x4 L N (some i) (some d) y9 y10) m) fun ρ1 m1 => (askB3 Fsame Fat ρ1 m1).turn _) = _
    rw [ev_only]
    unfold askB3
    rw [seq_nx t1, t2, ev_turn_nx]
    exact e3
theorem ask_out (hSame : Same Fsame) (hAt : TupsAt Fat) (hNam : Nam Fnam) (hO : One Fo) {l p ro rs L N : Nat} {es os ss : List D} {x4 y9 : Option D} (h : ∀ d ∈ es, IsEnt d) (hz : es.length ≤ 200) (hss : ∀ d ∈ ss, IsNm d) (h0 : 0 < ss.length) (hsz : ss.length ≤ 1000) (n1 : rs ≠ l ∧ rs ≠ p) (n2 : ro ≠ l ∧ ro ≠ p) : ∀ (ds : List D) (y7 y8 y10 : Option D) (m : Mem) (f : Nat), (∀ d ∈ ds, IsOb d) → Pot m l p (f + ds.length) → m[ro]? = some (.lst os) → m[rs]? = some (.lst ss) →
    ∃ z7 z8 z10 m', forF ⟨os, some (ro, .lst os)⟩ (γName 7) (askB2 Fsame Fat Fnam Fo) ds (askE l es ro rs x4 L N y7 y8 y9 y10) m = .nx (askE l es ro rs x4 L N z7 z8 y9 z10) m' ∧ Frm [l, p] m m' ∧ Pot m' l p f
  | [], y7, y8, y10, m, f, _, hp, go, gs => ⟨y7, y8, y10, m, forF_end (ok_lk go), Frm.refl, hp⟩
  | d :: ds, y7, y8, y10, m, f, hd, hp, go, gs => by
    simp only [List.length_cons] at hp
    have hi := hd d List.mem_cons_self
    have t1 : dSet 10 dueN (askE l es ro rs x4 L N (some d) y8 y9 y10) m = .nx (askE l es ro rs x4 L N (some d) y8 y9 (some (.tup (es.filter (namB d))))) (m ++ [.lst (es.filter (namB d))]) := set_any (dueN_ok h hz hi)
    obtain ⟨m2, e2, f2⟩ := hNam.ok (m := m ++ [.lst (es.filter (namB d))]) h hz hi
    have t2 := if_not_true (F := Fsame) (fs := dCons (dApp Fnam [] (dCons (dVar 1) (dCons (dVar 7) dNil))) (dCons (dVar 10) dNil)) (ρ := askE l es ro rs x4 L N (some d) y8 y9 (some (.tup (es.filter (namB d))))) (cons_any (app_any (cons_any (var_any rfl) (cons_any (var_any rfl) nil_any)) e2) (cons_any (var_any rfl) nil_any)) (hSame.row (srt_ent (filt_ent h)) (fun x hx => (filt_ent h x hx).nodes) (by decide) (Nat.le_trans (List.length_filter_le _ _) (by omega)))
    have f12 : Frm [] m m2 := Frm.app.trans f2
    have gs2 := f12.get gs (by simp)
    have go2 := f12.get go (by simp)
    have p2 := hp.frm f12 (by simp) (by simp)
    -- the row of stored
    let cut := cutD ss none (some 2)
    have hcut : ∀ x ∈ cut, x ∈ ss := fun x hx => by
      have := List.mem_of_mem_take hx
      exact List.mem_of_mem_drop this
    have e3 : dSl opSl (dVar 3) dNoPt (dPt (dC (.int 2))) (askE l es ro rs x4 L N (some d) y8 y9 (some (.tup (es.filter (namB d))))) m2 = .ok (.ref m2.length) (m2 ++ [.lst cut]) := by
      rw [ev_sl]
      exact sl_l gs2
    obtain ⟨x, m3, e4, hx, f4, p4, l4⟩ := hO.ok (f := f + ds.length) (m := m2 ++ [.lst cut]) (p2.app.le (by omega)) (get_old gs2) n1.1 n1.2 h0 (by omega)
    have e5 : dLst (dCons (dApp Fo [] (dCons (dVar 0) (dCons (dVar 3) dNil))) dNil) (askE l es ro rs x4 L N (some d) y8 y9 (some (.tup (es.filter (namB d))))) (m2 ++ [.lst cut]) = .ok (.ref m3.length) (m3 ++ [.lst [x]]) := by
      rw [ev_lst, cons_any (app_any (cons_any (var_any rfl) (cons_any (var_any rfl) nil_any)) e4) nil_any, ev_bind, if_pos (sz_le (by simp))]
    have hl3 : m2.length < m3.length := by rw [l4]; simp
    have lp := p2.lt
    have gc : (m3 ++ [MO.lst [x]])[m2.length]? = some (.lst cut) := get_old (f4.get get_new (by simp; omega))
    have gx : (m3 ++ [MO.lst [x]])[m3.length]? = some (.lst [x]) := get_new
    have lc : cut.length ≤ 1000 := by
      have h1 := List.length_take_le' (HT.sIx ss.length ss.length (some 2) - HT.sIx ss.length 0 none) (ss.drop (HT.sIx ss.length 0 none))
      have h2 : cut.length ≤ (ss.drop (HT.sIx ss.length 0 none)).length := h1
      rw [List.length_drop] at h2
      omega
    have e6 : opAdd (.ref m2.length) (.ref m3.length) (m3 ++ [.lst [x]]) = .ok (.ref (m3 ++ [MO.lst [x]]).length) (m3 ++ [.lst [x]] ++ [.lst (cut ++ [x])]) := by
      rw [ev_add_r, gc, gx]
      exact if_pos (sz_le (by simp; omega))
    have e7 : dIt (dBin opAdd (dSl opSl (dVar 3) dNoPt (dPt (dC (.int 2)))) (dLst (dCons (dApp Fo [] (dCons (dVar 0) (dCons (dVar 3) dNil))) dNil))) (askE l es ro rs x4 L N (some d) y8 y9 (some (.tup (es.filter (namB d))))) m2 = .ok ⟨cut ++ [x], some ((m3 ++ [MO.lst [x]]).length, .lst (cut ++ [x]))⟩ (m3 ++ [.lst [x]] ++ [.lst (cut ++ [x])]) := by
      rw [ev_it, bin_any e3 e5 e6, ev_bind]
      unfold srcOf
      simp only [get_new]
    obtain ⟨z8, z10, m5, e8, f8⟩ := ask_in hSame hAt h hz hi (x4 := x4) (y9 := y9) (l := l) (ro := ro) (rs := rs) (L := L) (N := N) (zs := cut ++ [x]) (r := (m3 ++ [MO.lst [x]]).length) (xs := cut ++ [x]) (cut ++ [x]) y8 (some (.tup (es.filter (namB d)))) (m3 ++ [.lst [x]] ++ [.lst (cut ++ [x])]) (fun y hy => by
      rcases List.mem_append.mp hy with hy | hy
      · exact hss y (hcut y hy)
      · rw [List.mem_singleton.mp hy]; exact hss x hx) get_new
    have f25 : Frm [l, p] m2 m5 := (((Frm.app.trans f4).more).more).trans (f8.mono (by simp))
    have f05 : Frm [l, p] m m5 := (f12.mono (by simp)).trans f25
    have p5 : Pot m5 l p (f + ds.length) := (p4.app.app).frm f8 (by simp) (by simp)
    obtain ⟨w7, w8, w10, m6, e9, f9, p9⟩ := ask_out hSame hAt hNam hO h hz hss h0 hsz n1 n2 (x4 := x4) (y9 := y9) (L := L) (N := N) ds (some d) z8 z10 m5 f (fun y hy => hd y (List.mem_cons_of_mem _ hy)) p5 (f05.get go (by simp; omega)) (f05.get gs (by simp; omega))
    refine ⟨w7, w8, w10, m6, ?_, f05.trans f9, p9⟩
    rw [forF_lk (ok_lk go)]
    show (DL.R.only (.ok (askE l es ro rs x4 L N (some d) y8 y9 y10) m) fun ρ1 m1 => (askB2 Fsame Fat Fnam Fo ρ1 m1).turn _) = _
    rw [ev_only]
    unfold askB2
    rw [seq_nx t1, seq_nx t2, ev_for, e7, ev_goes, e8, ev_turn_nx]
    exact e9
def askG (Fsame Fobj Fus Fat Fnam Fo : List D → Mem → R D) : DSt := (dSeq (dSet 5 (dLst dNil))
  (dSeq (dSet 6 (dLst dNil))
  (dSeq (dFor (dIt (dVar 1)) (γTL 3 (γCons (γName 7) (γCons (γName 8) (γCons (γName 9) γNil)))) askB1)
  (dSeq (dIfS (dOr (dNot (dTru (dApp Fsame [] (dCons (dApp Fobj [] (dCons (dVar 1) dNil)) (dCons (dCall (fn1 opTuple) (dCons (dCall (fn1 opSortedA) (dCons (dCall (fn1 opSetOf) (dCons (dVar 5) dNil)) dNil)) dNil)) dNil))))) (dNot (dTru (dApp Fsame [] (dCons (dApp Fus [] (dCons (dVar 1) dNil)) (dCons (dCall (fn1 opTuple) (dCons (dCall (fn1 opSortedA) (dCons (dCall (fn1 opSetOf) (dCons (dVar 6) dNil)) dNil)) dNil)) dNil)))))) (dRet (dC (.bl false))) dNext)
  (dSeq (dFor (dIt (dVar 2)) (γName 7) (askB2 Fsame Fat Fnam Fo))
  (dRet (dC (.bl true))))))))
structure Asked (F : List D → Mem → R D) : Prop where
  ok : ∀ {es os ss : List D} {l p ro rs f : Nat} {x4 : D} {m : Mem}, (∀ d ∈ es, IsEnt d) → es.length ≤ 100 → (∀ d ∈ os, IsOb d) → (∀ d ∈ ss, IsNm d) → 0 < ss.length → ss.length ≤ 1000 → rs ≠ l ∧ rs ≠ p → ro ≠ l ∧ ro ≠ p → Pot m l p (f + os.length) → m[ro]? = some (.lst os) → m[rs]? = some (.lst ss) →
    ∃ m', F [.ref l, .tup es, .ref ro, .ref rs, x4] m = .ok (.bl true) m' ∧ Frm [l, p] m m' ∧ Pot m' l p f
theorem askG_ok (hSame : Same Fsame) (hObj : Objs Fobj) (hUs : Users Fus) (hAt : TupsAt Fat) (hNam : Nam Fnam) (hO : One Fo) : Asked (runB 5 12 (askG Fsame Fobj Fus Fat Fnam Fo)) := ⟨fun {es os ss l p ro rs f x4 m} h hz ho hs h0 hsz n1 n2 hp go gs => by
  have t1 : dSet 5 (dLst dNil) [some (.ref l), some (.tup es), some (.ref ro), some (.ref rs), some x4, none, none, none, none, none, none, none] m = .nx [some (.ref l), some (.tup es), some (.ref ro), some (.ref rs), some x4, some (.ref m.length), none, none, none, none, none, none] (m ++ [.lst []]) := by simp
  have t2 : dSet 6 (dLst dNil) [some (.ref l), some (.tup es), some (.ref ro), some (.ref rs), some x4, some (.ref m.length), none, none, none, none, none, none] (m ++ [.lst []]) = .nx (askE l es ro rs (some x4) m.length (m.length + 1) none none none none) (m ++ [.lst []] ++ [.lst []]) := by simp
  have gL : (m ++ [MO.lst []] ++ [.lst []])[m.length]? = some (.lst []) := get_old get_new
  have gN : (m ++ [MO.lst []] ++ [.lst []])[m.length + 1]? = some (.lst []) := by
    have := @get_new (m ++ [MO.lst []]) (.lst [])
    simpa using this
  obtain ⟨z7, z8, z9, m1, e1, g1, g2, f1⟩ := ask_loop1 (l := l) (ro := ro) (rs := rs) (es := es) (x4 := some x4) (y10 := none) (L := m.length) (N := m.length + 1) (by omega) (s := ⟨es, none⟩) rfl es [] [] none none none _ h gL gN (by simp; omega) (by simp; omega)
  rw [List.nil_append] at g1 g2
  have f01 : Frm [] m m1 := by
    have a : Frm [m.length, m.length + 1] m m1 := Frm.app.more.trans f1
    exact ⟨a.le, fun i hi n => a.old i hi (by simp; omega)⟩
  obtain ⟨m2, e2, f2⟩ := hObj.ok (m := m1) h (by omega)
  have so := srt_ob (stand_ob h)
  have lso := stand_len h
  have st1 := sort_set (i := 5) (ρ := askE l es ro rs (some x4) m.length (m.length + 1) z7 z8 z9 none) rfl (f2.get g1 (by simp)) so (setK_tup fun d hd => (stand_ob h d hd).tupK) (by omega)
  have mo : ∀ d ∈ isort (nubD (stand es)), IsOb d := fun d hd => stand_ob h d (mem_nub.mp (isort_mem.mp hd))
  have lo : (isort (nubD (stand es))).length ≤ 1000 := by rw [(isort_perm _).length_eq]; exact Nat.le_trans (nub_len _) (by omega)
  have q1 := tst_true (F := Fsame) (fs := dCons (dApp Fobj [] (dCons (dVar 1) dNil)) (dCons (dCall (fn1 opTuple) (dCons (dCall (fn1 opSortedA) (dCons (dCall (fn1 opSetOf) (dCons (dVar 5) dNil)) dNil)) dNil)) dNil)) (ρ := askE l es ro rs (some x4) m.length (m.length + 1) z7 z8 z9 none) (cons_any (app_any (cons_any (var_any rfl) nil_any) e2) (cons_any st1 nil_any)) (hSame.row (k := 3) (srt_ob mo) (fun d hd => by rw [(mo d hd).nodes]; decide) (by decide) lo)
  generalize hm3 : m2 ++ [.stt (nubD (stand es))] ++ [.lst (isort (nubD (stand es)))] = m3 at q1
  have f23 : Frm [] m2 m3 := by rw [← hm3]; exact Frm.app.more
  obtain ⟨m4, e4, f4⟩ := hUs.ok (m := m3) h (by omega)
  have f14 := (f2.trans f23).trans f4
  have lsn := @named_len es
  have st2 := sort_set (i := 6) (ρ := askE l es ro rs (some x4) m.length (m.length + 1) z7 z8 z9 none) rfl (f14.get g2 (by simp)) (srt_nm (named_nm h)) (setK_str (named_nm h)) (by omega)
  have mn : ∀ d ∈ isort (nubD (named es)), IsNm d := fun d hd => named_nm h d (mem_nub.mp (isort_mem.mp hd))
  have ln : (isort (nubD (named es))).length ≤ 1000 := by rw [(isort_perm _).length_eq]; exact Nat.le_trans (nub_len _) (by omega)
  have q2 := tst_true (F := Fsame) (fs := dCons (dApp Fus [] (dCons (dVar 1) dNil)) (dCons (dCall (fn1 opTuple) (dCons (dCall (fn1 opSortedA) (dCons (dCall (fn1 opSetOf) (dCons (dVar 6) dNil)) dNil)) dNil)) dNil)) (ρ := askE l es ro rs (some x4) m.length (m.length + 1) z7 z8 z9 none) (cons_any (app_any (cons_any (var_any rfl) nil_any) e4) (cons_any st2 nil_any)) (hSame.row (k := 3) (srt_nm mn) (fun d hd => by rw [(mn d hd).nodes]; decide) (by decide) ln)
  generalize hm5 : m4 ++ [.stt (nubD (named es))] ++ [.lst (isort (nubD (named es)))] = m5 at q2
  have f45 : Frm [] m4 m5 := by rw [← hm5]; exact Frm.app.more
  have f05 : Frm [] m m5 := (f01.trans f14).trans f45
  have t4 := (if_false (a := dRet (dC (.bl false))) (b := dNext) (or_false_ q1 q2)).trans (ev_next (ρ := askE l es ro rs (some x4) m.length (m.length + 1) z7 z8 z9 none) (m := m5))
  have go5 := f05.get go (by simp)
  have gs5 := f05.get gs (by simp)
  obtain ⟨w7, w8, w10, m6, e6, f6, p6⟩ := ask_out hSame hAt hNam hO h (by omega) hs h0 hsz n1 n2 (x4 := some x4) (y9 := z9) (L := m.length) (N := m.length + 1) os z7 z8 none m5 f ho (hp.frm f05 (by simp) (by simp)) go5 gs5
  refine ⟨m6, ?_, (f05.mono (by simp)).trans f6, p6⟩
  rw [run_eq (np := 5) rfl]
  show (askG Fsame Fobj Fus Fat Fnam Fo [some (.ref l), some (.tup es), some (.ref ro), some (.ref rs), some x4, none, none, none, none, none, none, none] m).val = _
  unfold askG
  have it1 : dIt (dVar 1) (askE l es ro rs (some x4) m.length (m.length + 1) none none none none) (m ++ [.lst []] ++ [.lst []]) = .ok ⟨es, none⟩ (m ++ [.lst []] ++ [.lst []]) := rfl
  have t3 : dFor (dIt (dVar 1)) (γTL 3 (γCons (γName 7) (γCons (γName 8) (γCons (γName 9) γNil)))) askB1 (askE l es ro rs (some x4) m.length (m.length + 1) none none none none) (m ++ [.lst []] ++ [.lst []]) = .nx (askE l es ro rs (some x4) m.length (m.length + 1) z7 z8 z9 none) m1 := by
    rw [ev_for, it1, ev_goes]
    exact e1
  have it2 : dIt (dVar 2) (askE l es ro rs (some x4) m.length (m.length + 1) z7 z8 z9 none) m5 = .ok ⟨os, some (ro, .lst os)⟩ m5 := it_lst rfl go5
  rw [seq_nx t1, seq_nx t2, seq_nx t3, seq_nx t4, ev_seq, ev_for, it2, ev_goes, e6, ev_thn_nx]
  rfl⟩
end
end DL
/-! A scene: its parts. -/
namespace DL
open PySem PySem.Spec L2
theorem sl_any {f g : DF} {ρ : En} {m m1 m2 m3 : Mem} {d e : D} {i : Int} (h1 : f ρ m = .ok d m1) (h2 : g ρ m1 = .ok (.int i) m2) (h3 : opSl d none (some i) m2 = .ok e m3) : dSl opSl f dNoPt (dPt g) ρ m = .ok e m3 := by
  have h4 : dPt g ρ m1 = .ok (some i) m2 := by
    unfold dPt
    rw [h2, ev_bind]
  have h5 : dNoPt ρ m1 = .ok none m1 := rfl
  rw [ev_sl, h1, ev_bind, h5, ev_bind, h4, ev_bind, h3]
theorem ix_last {m : Mem} {r : Nat} {xs : List D} (g : m[r]? = some (.lst xs)) (h : 0 < xs.length) : ∃ x, opIxM (.ref r) (.int (-1)) m = .ok x m ∧ x ∈ xs := by
  refine ⟨xs[xs.length - 1], ?_, List.getElem_mem _⟩
  rw [ev_ix_l g]
  have : atI xs (-1) = some xs[xs.length - 1] := by
    have h2 : (-1 + (xs.length : Int)).toNat = xs.length - 1 := by omega
    have h3 : xs.length - 1 < xs.length := by omega
    unfold atI ixN
    rw [if_neg (by decide), if_pos (by omega), h2]
    exact List.getElem?_eq_getElem h3
  rw [this]
theorem ix_head {m : Mem} {r : Nat} {xs : List D} (g : m[r]? = some (.lst xs)) (h : 0 < xs.length) : ∃ x, opIxM (.ref r) (.int 0) m = .ok x m ∧ x ∈ xs := by
  refine ⟨xs[0], ?_, List.getElem_mem _⟩
  rw [ev_ix_l g, show atI xs 0 = some xs[0] from at_nat (i := 0) (List.getElem?_eq_getElem h)]
section
variable {Fn Fd Fo : List D → Mem → R D}
def kindsD (Fn Fd : List D → Mem → R D) : DF := (dSl opSl (dApp Fn [] (dCons (dVar 0) (dCons (dC (.int 3)) dNil))) dNoPt (dPt (dBin opAdd (dC (.int 1)) (dApp Fd [] (dCons (dVar 0) (dCons (dC (.int 3)) dNil))))))
/-- a new list of so many, and the pot behind it -/
structure Row (P : D → Prop) (l p f : Nat) (m : Mem) (lo hi : Nat) (r : Nat) (xs : List D) (m' : Mem) : Prop where
  get : m'[r]? = some (.lst xs)
  all : ∀ d ∈ xs, P d
  lo : lo ≤ xs.length
  hi : xs.length ≤ hi
  ge : m.length ≤ r
  frm : Frm [l, p] m m'
  pot : Pot m' l p f
theorem Row.ne {P : D → Prop} {l p f g : Nat} {m : Mem} {lo hi r : Nat} {xs : List D} {m' : Mem} (h : Row P l p f m lo hi r xs m') (hp : Pot m l p g) : r ≠ l ∧ r ≠ p := by
  have := hp.lt
  have := h.ge
  omega
theorem kindsD_ok (hN : Names Fn) (hD : Draw Fd) {l p f : Nat} {m : Mem} {ρ : En} (h0 : ρ[0]? = some (some (.ref l))) (hp : Pot m l p (f + 30)) : ∃ rk ks m', kindsD Fn Fd ρ m = .ok (.ref rk) m' ∧ Row IsNm l p f m 1 3 rk ks m' := by
  obtain ⟨r, ns, m1, e1, g1, g2, hl, hn, f1, p1⟩ := hN.ok (f := f + 1) (many := 3) (hp.le (by omega)) (by decide)
  obtain ⟨j, m2, e2, a, b, f2, p2, l2⟩ := hD.ok (f := f) (many := 3) p1 (by decide) (by decide)
  have lt := hp.lt
  have k2 := f2.get g2 (by simp; omega)
  have hk : (1 + j).toNat ≤ ns.length := by omega
  have hj : ((1 + j).toNat : Int) = 1 + j := Int.toNat_of_nonneg (by omega)
  have e3 := sl_l (lo := none) (hi := some ((1 + j).toNat : Int)) k2
  rw [cut_to hk, hj] at e3
  refine ⟨m2.length, ns.take (1 + j).toNat, m2 ++ [.lst (ns.take (1 + j).toNat)], sl_any (app_any (cons_any (var_any h0) (cons_any C_any nil_any)) e1) (bin_any C_any (app_any (cons_any (var_any h0) (cons_any C_any nil_any)) e2) (ev_add_i 1 j)) e3, get_new, fun d hd => hn d (List.mem_of_mem_take hd), by rw [List.length_take]; omega, by rw [List.length_take]; omega, Nat.le_trans f1.le f2.le, (f1.trans f2).more, p2.app⟩
def objsD (Fo : List D → Mem → R D) : DF := (dLc (dIt (dSl opSl (dVar 4) dNoPt (dPt (dBin opSub (dVar 1) (dC (.int 1)))))) (γName 11) dYes (dTup (dCons (dApp Fo [] (dCons (dVar 0) (dCons (dVar 3) dNil))) (dCons (dVar 11) dNil))) [11])
theorem objsD_ok (hO : One Fo) {l p f rk rn many : Nat} {ks ns : List D} {x2 : Option D} {m : Mem} (hk : m[rk]? = some (.lst ks)) (hn : m[rn]? = some (.lst ns)) (nk : rk ≠ l ∧ rk ≠ p) (ak : ∀ d ∈ ks, IsNm d) (lk : 0 < ks.length) (lk3 : ks.length ≤ 3) (an : ∀ d ∈ ns, IsNm d) (ln : ns.length = many) (h3 : 3 ≤ many) (h25 : many ≤ 25) (hp : Pot m l p (f + 25)) :
    ∃ ro os m', objsD Fo [some (.ref l), some (.int many), x2, some (.ref rk), some (.ref rn), none, none, none, none, none, none, none] m = .ok (.ref ro) m' ∧ Row IsOb l p f m 2 24 ro os m' := by
  have e1 := sl_l (lo := none) (hi := some ((many - 1 : Nat) : Int)) hn
  rw [cut_to (by omega)] at e1
  have hm : ((many : Int) - 1) = ((many - 1 : Nat) : Int) := by omega
  have e2 : dIt (dSl opSl (dVar 4) dNoPt (dPt (dBin opSub (dVar 1) (dC (.int 1))))) [some (.ref l), some (.int many), x2, some (.ref rk), some (.ref rn), none, none, none, none, none, none, none] m = .ok ⟨ns.take (many - 1), some (m.length, .lst (ns.take (many - 1)))⟩ (m ++ [.lst (ns.take (many - 1))]) := by
    rw [ev_it, sl_any (var_any rfl) (bin_any (var_any rfl) C_any ((ev_sub_i (many : Int) 1).trans (by rw [hm]))) e1, ev_bind]
    unfold srcOf
    simp only [get_new]
  have lt := hp.lt
  have rkl := lt_of_get hk
  let St : Nat → Mem → Prop := fun n M => Pot M l p (f + n) ∧ M[rk]? = some (.lst ks) ∧ M[m.length]? = some (.lst (ns.take (many - 1)))
  obtain ⟨ys, m', e3, s3, g3, l3, good, f3⟩ := dlc_rel (γ := γName 11) (f := dTup (dCons (dApp Fo [] (dCons (dVar 0) (dCons (dVar 3) dNil))) (dCons (dVar 11) dNil))) (vs := [11]) (ls := [l, p]) IsOb St 0 e2 (by simp; omega)
    (fun n m' o h => ⟨h.1.set_ne (by simp; omega) (by simp; omega), get_set_ne h.2.1 (by simp; omega), get_set_ne h.2.2 (by simp)⟩)
    (fun n M h => ok_lk h.2.2)
    ⟨hp.app.app.le (by rw [List.length_take]; omega), get_old (get_old hk), get_old get_new⟩
    (fun d hd n M hSt => by
      obtain ⟨x, M', e, hx, f1, p1, _⟩ := hO.ok (f := f + n) (hSt.1.le (by omega)) hSt.2.1 nk.1 nk.2 lk (by omega)
      exact ⟨_, _, M', rfl, tup_any (cons_any (app_any (cons_any (var_any rfl) (cons_any (var_any rfl) nil_any)) e) (cons_any (var_any rfl) nil_any)) (by simp), ⟨x, d, ak x hx, an d (List.mem_of_mem_take hd), rfl⟩, ⟨p1, f1.get hSt.2.1 (by simp; omega), f1.get hSt.2.2 (by simp; omega)⟩, f1⟩)
    (by show (ns.take (many - 1)).length < _; rw [List.length_take]; omega)
  have l4 : ys.length = many - 1 := by rw [l3]; show (ns.take (many - 1)).length = _; rw [List.length_take]; omega
  exact ⟨_, ys, m', e3, g3, good, by omega, by omega, by simp, Frm.app.trans f3, s3.1⟩
def besD (Fo : List D → Mem → R D) : DF := (dLst (dCons (dTup (dCons (dApp Fo [] (dCons (dVar 0) (dCons (dVar 3) dNil))) (dCons (dBin opIxM (dVar 4) (dUn opNeg (dC (.int 1)))) dNil))) (dCons (dTup (dCons (dBin opIxM (dVar 3) (dC (.int 0))) (dCons (dBin opIxM (dBin opIxM (dVar 5) (dUn opNeg (dC (.int 1)))) (dC (.int 1))) dNil))) (dCons (dTup (dCons (dBin opIxM (dBin opIxM (dVar 5) (dC (.int 0))) (dC (.int 1))) (dCons (dBin opIxM (dVar 3) (dUn opNeg (dC (.int 1)))) dNil))) dNil))))
theorem neg1 {ρ : En} {m : Mem} : dUn opNeg (dC (.int 1)) ρ m = .ok (.int (-1)) m := rfl
theorem besD_ok (hO : One Fo) {l p f rk rn ro : Nat} {ks ns os : List D} {ρ : En} {m : Mem} (h0 : ρ[0]? = some (some (.ref l))) (v3 : ρ[3]? = some (some (.ref rk))) (v4 : ρ[4]? = some (some (.ref rn))) (v5 : ρ[5]? = some (some (.ref ro))) (hk : m[rk]? = some (.lst ks)) (hn : m[rn]? = some (.lst ns)) (ho : m[ro]? = some (.lst os)) (nk : rk ≠ l ∧ rk ≠ p) (nn : rn ≠ l ∧ rn ≠ p) (no : ro ≠ l ∧ ro ≠ p) (ak : ∀ d ∈ ks, IsNm d) (lk : 0 < ks.length) (lk3 : ks.length ≤ 3) (an : ∀ d ∈ ns, IsNm d) (ln : 0 < ns.length) (ao : ∀ d ∈ os, IsOb d) (lo : 0 < os.length) (hp : Pot m l p (f + 1)) :
    ∃ r bs m', besD Fo ρ m = .ok (.ref r) m' ∧ Row IsOb l p f m 3 3 r bs m' := by
  obtain ⟨x, m1, e1, hx, f1, p1, _⟩ := hO.ok (f := f) hp hk nk.1 nk.2 lk (by omega)
  have k1 := f1.get hk (by simp; omega)
  have n1 := f1.get hn (by simp; omega)
  have o1 := f1.get ho (by simp; omega)
  obtain ⟨a, ea, ha⟩ := ix_last n1 ln
  obtain ⟨b, eb, hb⟩ := ix_head k1 lk
  obtain ⟨c, ec, hc⟩ := ix_last o1 lo
  obtain ⟨d, ed, hd⟩ := ix_head o1 lo
  obtain ⟨e, ee, he⟩ := ix_last k1 lk
  obtain ⟨c1, c2, hc1, hc2, rfl⟩ := ao c hc
  obtain ⟨d1, d2, hd1, hd2, rfl⟩ := ao d hd
  refine ⟨m1.length, [.tup [x, a], .tup [b, c2], .tup [d2, e]], m1 ++ [.lst [.tup [x, a], .tup [b, c2], .tup [d2, e]]], ?_, get_new, fun z hz => ?_, by simp, by simp, f1.le, f1.more, p1.app⟩
  · unfold besD
    rw [ev_lst, cons_any (tup_any (cons_any (app_any (cons_any (var_any h0) (cons_any (var_any v3) nil_any)) e1) (cons_any (bin_any (var_any v4) neg1 ea) nil_any)) (by simp)) (cons_any (tup_any (cons_any (bin_any (var_any v3) C_any eb) (cons_any (bin_any (bin_any (var_any v5) neg1 ec) C_any ix1) nil_any)) (by simp)) (cons_any (tup_any (cons_any (bin_any (bin_any (var_any v5) C_any ed) C_any ix1) (cons_any (bin_any (var_any v3) neg1 ee) nil_any)) (by simp)) nil_any)), ev_bind, if_pos (sz_le (by simp))]
  · rcases List.mem_cons.mp hz with rfl | hz
    · exact ⟨_, _, ak x hx, an a ha, rfl⟩
    · rcases List.mem_cons.mp hz with rfl | hz
      · exact ⟨_, _, ak b hb, hc2, rfl⟩
      · rw [List.mem_singleton.mp hz]
        exact ⟨_, _, hd2, ak e he, rfl⟩
def storedD (Fn Fd : List D → Mem → R D) : DF := (dApp Fn [] (dCons (dVar 0) (dCons (dBin opAdd (dC (.int 1)) (dApp Fd [] (dCons (dVar 0) (dCons (dC (.int 4)) dNil)))) dNil)))
theorem storedD_ok (hN : Names Fn) (hD : Draw Fd) {l p f : Nat} {m : Mem} {ρ : En} (h0 : ρ[0]? = some (some (.ref l))) (hp : Pot m l p (f + 31)) : ∃ rk ks m', storedD Fn Fd ρ m = .ok (.ref rk) m' ∧ Row IsNm l p f m 1 4 rk ks m' := by
  obtain ⟨j, m1, e1, a, b, f1, p1, l1⟩ := hD.ok (f := f + 30) (many := 4) hp (by decide) (by decide)
  have hj : ((1 + j).toNat : Int) = 1 + j := Int.toNat_of_nonneg (by omega)
  obtain ⟨r, ns, m2, e2, g1, g2, hl, hn, f2, p2⟩ := hN.ok (f := f) (many := (1 + j).toNat) (p1.le (by omega)) (by omega)
  rw [hj] at e2
  exact ⟨r, ns, m2, app_any (cons_any (var_any h0) (cons_any (bin_any C_any (app_any (cons_any (var_any h0) (cons_any C_any nil_any)) e1) (ev_add_i 1 j)) nil_any)) e2, g2, hn, by omega, by omega, Nat.le_trans f1.le g1, f1.trans f2, p2⟩
def usersD (Fn Fo : List D → Mem → R D) : DF := (dLc (dIt (dApp Fn [] (dCons (dVar 0) (dCons (dC (.int 4)) dNil)))) (γName 11) dYes (dApp Fo [] (dCons (dVar 0) (dCons (dLst (dCons (dVar 11) (dCons (dApp Fo [] (dCons (dVar 0) (dCons (dVar 4) dNil))) dNil))) dNil))) [11])
theorem usersD_ok (hN : Names Fn) (hO : One Fo) {l p f rn : Nat} {ns : List D} {x1 x2 x3 x5 x6 x7 : Option D} {m : Mem} (hn : m[rn]? = some (.lst ns)) (nn : rn ≠ l ∧ rn ≠ p) (an : ∀ d ∈ ns, IsNm d) (ln : 0 < ns.length) (ln2 : ns.length ≤ 100) (hp : Pot m l p (f + 38)) :
    ∃ ru us m', usersD Fn Fo [some (.ref l), x1, x2, x3, some (.ref rn), x5, x6, x7, none, none, none, none] m = .ok (.ref ru) m' ∧ Row IsNm l p f m 4 4 ru us m' := by
  obtain ⟨r, qs, M, e1, g1, g2, hl, hq, f1, p1⟩ := hN.ok (f := f + 8) (many := 4) (hp.le (by omega)) (by decide)
  have e2 : dIt (dApp Fn [] (dCons (dVar 0) (dCons (dC (.int 4)) dNil))) [some (.ref l), x1, x2, x3, some (.ref rn), x5, x6, x7, none, none, none, none] m = .ok ⟨qs, some (r, .lst qs)⟩ M := by
    have ea : dApp Fn [] (dCons (dVar 0) (dCons (dC (.int 4)) dNil)) [some (.ref l), x1, x2, x3, some (.ref rn), x5, x6, x7, none, none, none, none] m = .ok (.ref r) M := app_any (cons_any (var_any rfl) (cons_any C_any nil_any)) e1
    rw [ev_it, ea, ev_bind]
    unfold srcOf
    simp only [g2]
  have lt := p1.lt
  have lt0 := hp.lt
  have rl := lt_of_get g2
  have hn1 := f1.get hn (by simp; omega)
  have rnl := lt_of_get hn1
  let St : Nat → Mem → Prop := fun n N => Pot N l p (f + 2 * n) ∧ N[rn]? = some (.lst ns) ∧ N[r]? = some (.lst qs) ∧ M.length ≤ N.length
  obtain ⟨ys, m', e3, s3, g3, l3, good, f3⟩ := dlc_rel (γ := γName 11) (f := dApp Fo [] (dCons (dVar 0) (dCons (dLst (dCons (dVar 11) (dCons (dApp Fo [] (dCons (dVar 0) (dCons (dVar 4) dNil))) dNil))) dNil))) (vs := [11]) (ls := [l, p]) IsNm St 0 e2 (by simp; omega)
    (fun n m' o h => ⟨h.1.set_ne (by omega) (by omega), get_set_ne h.2.1 (by omega), get_set_ne h.2.2.1 (by omega), by rw [List.length_set]; exact h.2.2.2⟩)
    (fun n N h => ok_lk h.2.2.1)
    ⟨p1.app.le (by show f + 2 * (0 + qs.length) ≤ _; omega), get_old hn1, get_old g2, by simp⟩
    (fun d hd n N hSt => by
      obtain ⟨x, N1, e, hx, f4, p4, _⟩ := hO.ok (f := f + 2 * n + 1) (hSt.1.le (by omega)) hSt.2.1 nn.1 nn.2 ln (by omega)
      have eL : dLst (dCons (dVar 11) (dCons (dApp Fo [] (dCons (dVar 0) (dCons (dVar 4) dNil))) dNil)) ((wipeD [some (.ref l), x1, x2, x3, some (.ref rn), x5, x6, x7, none, none, none, none] [11]).set 11 (some d)) N = .ok (.ref N1.length) (N1 ++ [.lst [d, x]]) := by
        rw [ev_lst, cons_any (var_any rfl) (cons_any (app_any (cons_any (var_any rfl) (cons_any (var_any rfl) nil_any)) e) nil_any), ev_bind, if_pos (sz_le (by simp))]
      have lt4 := p4.lt
      obtain ⟨y, N2, e5, hy, f5, p5, _⟩ := hO.ok (f := f + 2 * n) (m := N1 ++ [.lst [d, x]]) p4.app get_new (by omega) (by omega) (by simp) (by simp)
      have f45 : Frm [l, p] N N2 := f4.more.trans f5
      refine ⟨_, y, N2, rfl, app_any (cons_any (var_any rfl) (cons_any eL nil_any)) e5, ?_, ⟨p5, f45.get hSt.2.1 (by simp; omega), f45.get hSt.2.2.1 (by simp; omega), Nat.le_trans hSt.2.2.2 f45.le⟩, f45⟩
      rcases List.mem_cons.mp hy with rfl | hy
      · exact hq _ hd
      · rw [List.mem_singleton.mp hy]; exact an x hx)
    (by show qs.length < _; omega)
  have l4 : ys.length = 4 := by rw [l3]; exact hl
  exact ⟨_, ys, m', e3, g3, good, by omega, by omega, f1.le, f1.trans f3, s3.1⟩
end
end DL
/-! A scene; the law. -/
namespace DL
open PySem PySem.Spec L2
section
variable {Fn Fd Fo Fst Fsame Fask Fsc Fobj Fus Fat Fnam Fpot : List D → Mem → R D}
def namesD (Fn : List D → Mem → R D) : DF := (dApp Fn [] (dCons (dVar 0) (dCons (dVar 1) dNil)))
def storeD (Fn Fst : List D → Mem → R D) : DF := (dApp Fst [] (dCons (dVar 0) (dCons (dVar 5) (dCons (dVar 7) (dCons (dVar 8) (dCons (dApp Fn [] (dCons (dVar 0) (dCons (dC (.int 3)) dNil))) (dCons (dVar 2) dNil)))))))
def keptD : DF := (dCall (fn1 opTuple) (dCons (dCall (fn1 opListA) (dCons (dVar 9) dNil)) dNil))
def askIf (Fask : List D → Mem → R D) : DSt := (dIfS (dNot (dTru (dApp Fask [] (dCons (dVar 0) (dCons (dVar 9) (dCons (dBin opAdd (dVar 5) (dVar 6)) (dCons (dBin opAdd (dVar 7) (dLst (dCons (dBin opIxM (dBin opIxM (dVar 5) (dC (.int 0))) (dC (.int 0))) dNil))) (dCons (dVar 8) dNil)))))))) (dRet (dC (.bl false))) dNext)
def sceneG (Fn Fd Fo Fst Fask Fsame : List D → Mem → R D) : DSt := (dSeq (dSet 3 (kindsD Fn Fd))
  (dSeq (dSet 4 (namesD Fn))
  (dSeq (dSet 5 (objsD Fo))
  (dSeq (dSet 6 (besD Fo))
  (dSeq (dSet 7 (storedD Fn Fd))
  (dSeq (dSet 8 (usersD Fn Fo))
  (dSeq (dSet 9 (storeD Fn Fst))
  (dSeq (dSet 10 keptD)
  (dSeq (askIf Fask)
  (dRet (dApp Fsame [] (dCons (dVar 9) (dCons (dVar 10) dNil)))))))))))))
structure Scene (F : List D → Mem → R D) : Prop where
  ok : ∀ {l p f many most : Nat} {m : Mem}, Pot m l p (f + 1000) → 3 ≤ many → many ≤ 25 → most ≤ 100 → ∃ m', F [.ref l, .int many, .int most] m = .ok (.bl true) m' ∧ Frm [l, p] m m' ∧ Pot m' l p f
theorem storeD_ok (hN : Names Fn) (hSt : Store Fst) {l p f ro rs ru most : Nat} {os ss us : List D} {ρ : En} {m : Mem} (v0 : ρ[0]? = some (some (.ref l))) (v2 : ρ[2]? = some (some (.int most))) (v5 : ρ[5]? = some (some (.ref ro))) (v7 : ρ[7]? = some (some (.ref rs))) (v8 : ρ[8]? = some (some (.ref ru)))
    (go : m[ro]? = some (.lst os)) (gs : m[rs]? = some (.lst ss)) (gu : m[ru]? = some (.lst us)) (no : ro ≠ l ∧ ro ≠ p) (ns : rs ≠ l ∧ rs ≠ p) (nu : ru ≠ l ∧ ru ≠ p) (ao : (∀ d ∈ os, IsOb d) ∧ 0 < os.length ∧ os.length ≤ 1000) (as : (∀ d ∈ ss, IsNm d) ∧ 0 < ss.length ∧ ss.length ≤ 1000) (au : (∀ d ∈ us, IsNm d) ∧ 0 < us.length ∧ us.length ≤ 1000) (hm : most ≤ 100) (hp : Pot m l p (f + 600)) :
    ∃ es m', storeD Fn Fst ρ m = .ok (.tup es) m' ∧ (∀ d ∈ es, IsEnt d) ∧ es.length ≤ 100 ∧ Frm [l, p] m m' ∧ Pot m' l p f := by
  obtain ⟨rr, rl, m1, e1, g1, g2, hl, hr, f1, p1⟩ := hN.ok (f := f + 500) (many := 3) (hp.le (by omega)) (by decide)
  have lt := hp.lt
  have lt1 := p1.lt
  have go1 := f1.get go (by simp; omega)
  have gs1 := f1.get gs (by simp; omega)
  have gu1 := f1.get gu (by simp; omega)
  have a1 := lt_of_get go1
  have a2 := lt_of_get gs1
  have a3 := lt_of_get gu1
  have a4 := lt_of_get g2
  obtain ⟨es, m2, e2, he, hz, f2, p2⟩ := hSt.ok (f := f) (most := most) (m := m1) (l := l) (p := p) (ro := ro) (rs := rs) (ru := ru) (rr := rr) (os := os) (ss := ss) (us := us) (rl := rl) ⟨by omega, by omega, by omega, by omega, by omega, ao, as, au, ⟨hr, by omega, by omega⟩⟩ ⟨p1.le (by omega), go1, gs1, gu1, g2⟩ hm
  exact ⟨es, m2, app_any (cons_any (var_any v0) (cons_any (var_any v5) (cons_any (var_any v7) (cons_any (var_any v8) (cons_any (app_any (cons_any (var_any v0) (cons_any C_any nil_any)) e1) (cons_any (var_any v2) nil_any)))))) e2, he, by omega, f1.trans f2, p2⟩
theorem askIf_ok (hA : Asked Fask) {l p f ro rb rs : Nat} {os bs ss es : List D} {x8 : D} {ρ : En} {m : Mem} (v0 : ρ[0]? = some (some (.ref l))) (v5 : ρ[5]? = some (some (.ref ro))) (v6 : ρ[6]? = some (some (.ref rb))) (v7 : ρ[7]? = some (some (.ref rs))) (v8 : ρ[8]? = some (some x8)) (v9 : ρ[9]? = some (some (.tup es)))
    (go : m[ro]? = some (.lst os)) (gb : m[rb]? = some (.lst bs)) (gs : m[rs]? = some (.lst ss)) (ao : (∀ d ∈ os, IsOb d) ∧ 0 < os.length ∧ os.length ≤ 24) (ab : (∀ d ∈ bs, IsOb d) ∧ bs.length ≤ 3) (as : (∀ d ∈ ss, IsNm d) ∧ 0 < ss.length ∧ ss.length ≤ 4) (he : ∀ d ∈ es, IsEnt d) (hz : es.length ≤ 100) (hp : Pot m l p (f + 30)) :
    ∃ m', askIf Fask ρ m = .nx ρ m' ∧ Frm [l, p] m m' ∧ Pot m' l p f := by
  have lt := hp.lt
  have e1 : opAdd (.ref ro) (.ref rb) m = .ok (.ref m.length) (m ++ [.lst (os ++ bs)]) := by
    rw [ev_add_r, go, gb]
    exact if_pos (sz_le (by omega))
  have go1 : (m ++ [MO.lst (os ++ bs)])[ro]? = some (.lst os) := get_old go
  have gs1 : (m ++ [MO.lst (os ++ bs)])[rs]? = some (.lst ss) := get_old gs
  have gA : (m ++ [MO.lst (os ++ bs)])[m.length]? = some (.lst (os ++ bs)) := get_new
  have l1 : (m ++ [MO.lst (os ++ bs)]).length = m.length + 1 := by simp
  have p1 : Pot (m ++ [MO.lst (os ++ bs)]) l p (f + 30) := hp.app
  generalize hm1 : m ++ [MO.lst (os ++ bs)] = m1 at *
  obtain ⟨x, ex, hx⟩ := ix_head go1 ao.2.1
  obtain ⟨k, n, hk, hn, rfl⟩ := ao.1 x hx
  have e2 : dLst (dCons (dBin opIxM (dBin opIxM (dVar 5) (dC (.int 0))) (dC (.int 0))) dNil) ρ m1 = .ok (.ref m1.length) (m1 ++ [.lst [k]]) := by
    rw [ev_lst, cons_any (bin_any (bin_any (var_any v5) C_any ex) C_any ix0) nil_any, ev_bind, if_pos (sz_le (by simp))]
  have e3 : opAdd (.ref rs) (.ref m1.length) (m1 ++ [.lst [k]]) = .ok (.ref (m1 ++ [MO.lst [k]]).length) (m1 ++ [.lst [k]] ++ [.lst (ss ++ [k])]) := by
    rw [ev_add_r, get_old gs1, get_new]
    exact if_pos (sz_le (by simp; omega))
  obtain ⟨m', e4, f4, p4⟩ := hA.ok (es := es) (os := os ++ bs) (ss := ss ++ [k]) (l := l) (p := p) (ro := m.length) (rs := (m1 ++ [MO.lst [k]]).length) (f := f) (x4 := x8) (m := m1 ++ [.lst [k]] ++ [.lst (ss ++ [k])]) he hz (fun d hd => (List.mem_append.mp hd).elim (ao.1 d) (ab.1 d)) (fun d hd => (List.mem_append.mp hd).elim (as.1 d) fun z => by rw [List.mem_singleton.mp z]; exact hk) (by simp) (by simp; omega) (by simp; omega) (by omega) (p1.app.app.le (by simp; omega)) (get_old (get_old gA)) get_new
  refine ⟨m', if_not_true (cons_any (var_any v0) (cons_any (var_any v9) (cons_any (bin_any (var_any v5) (var_any v6) e1) (cons_any (bin_any (var_any v7) e2 e3) (cons_any (var_any v8) nil_any))))) e4, ?_, p4⟩
  have : Frm [l, p] m m1 := by rw [← hm1]; exact Frm.app
  exact (this.more.more).trans f4
theorem sceneG_ok (hN : Names Fn) (hD : Draw Fd) (hO : One Fo) (hSt : Store Fst) (hA : Asked Fask) (hS : Same Fsame) : Scene (runB 3 12 (sceneG Fn Fd Fo Fst Fask Fsame)) := ⟨fun {l p f many most m} hp h3 h25 hm => by
  obtain ⟨rk, ks, m1, e1, w1⟩ := kindsD_ok hN hD (f := f + 900) (m := m) (ρ := [some (.ref l), some (.int many), some (.int most), none, none, none, none, none, none, none, none, none]) rfl (hp.le (by omega))
  have nk := w1.ne hp
  obtain ⟨rn, ns, m2, e2, r2, gn2, ln2, an2, f2, p2⟩ := hN.ok (f := f + 840) (many := many) (w1.pot.le (by omega)) (by omega)
  have w2 : Row IsNm l p (f + 840) m1 3 25 rn ns m2 := ⟨gn2, an2, by omega, by omega, r2, f2, p2⟩
  have nn := w2.ne w1.pot
  have gk2 := f2.get w1.get (by simp; omega)
  obtain ⟨ro, os, m3, e3, w3⟩ := objsD_ok hO (f := f + 800) (x2 := some (.int most)) gk2 gn2 nk w1.all w1.lo w1.hi an2 ln2 h3 h25 (p2.le (by omega))
  have no := w3.ne p2
  have gk3 := w3.frm.get gk2 (by simp; omega)
  have gn3 := w3.frm.get gn2 (by simp; omega)
  obtain ⟨rb, bs, m4, e4, w4⟩ := besD_ok hO (f := f + 799) (ρ := [some (.ref l), some (.int many), some (.int most), some (.ref rk), some (.ref rn), some (.ref ro), none, none, none, none, none, none]) rfl rfl rfl rfl gk3 gn3 w3.get nk nn no w1.all w1.lo w1.hi an2 (by omega) w3.all (by have := w3.lo; omega) (w3.pot.le (by omega))
  have nb := w4.ne w3.pot
  have go4 := w4.frm.get w3.get (by simp; omega)
  have gn4 := w4.frm.get gn3 (by simp; omega)
  obtain ⟨rs, ss, m5, e5, w5⟩ := storedD_ok hN hD (f := f + 760) (ρ := [some (.ref l), some (.int many), some (.int most), some (.ref rk), some (.ref rn), some (.ref ro), some (.ref rb), none, none, none, none, none]) rfl (w4.pot.le (by omega))
  have ns' := w5.ne w4.pot
  have go5 := w5.frm.get go4 (by simp; omega)
  have gn5 := w5.frm.get gn4 (by simp; omega)
  have gb5 := w5.frm.get w4.get (by simp; omega)
  obtain ⟨ru, us, m6, e6, w6⟩ := usersD_ok hN hO (f := f + 700) (x1 := some (.int many)) (x2 := some (.int most)) (x3 := some (.ref rk)) (x5 := some (.ref ro)) (x6 := some (.ref rb)) (x7 := some (.ref rs)) gn5 nn an2 (by omega) (by omega) (w5.pot.le (by omega))
  have nu := w6.ne w5.pot
  have go6 := w6.frm.get go5 (by simp; omega)
  have gb6 := w6.frm.get gb5 (by simp; omega)
  have gs6 := w6.frm.get w5.get (by simp; omega)
  have l3 := w3.lo
  have h3' := w3.hi
  have l5 := w5.lo
  have h5' := w5.hi
  have l6 := w6.lo
  have h6' := w6.hi
  obtain ⟨es, m7, e7, he, hz, f7, p7⟩ := storeD_ok hN hSt (f := f + 100) (most := most) (ρ := [some (.ref l), some (.int many), some (.int most), some (.ref rk), some (.ref rn), some (.ref ro), some (.ref rb), some (.ref rs), some (.ref ru), none, none, none]) rfl rfl rfl rfl rfl go6 gs6 w6.get no ns' nu ⟨w3.all, by omega, by omega⟩ ⟨w5.all, by omega, by omega⟩ ⟨w6.all, by omega, by omega⟩ hm (w6.pot.le (by omega))
  have go7 := f7.get go6 (by simp; omega)
  have gb7 := f7.get gb6 (by simp; omega)
  have gs7 := f7.get gs6 (by simp; omega)
  have e8 : keptD [some (.ref l), some (.int many), some (.int most), some (.ref rk), some (.ref rn), some (.ref ro), some (.ref rb), some (.ref rs), some (.ref ru), some (.tup es), none, none] m7 = .ok (.tup es) (m7 ++ [.lst es]) := tup_lc (r := m7.length) (by rw [ev_call, cons_any (var_any rfl) nil_any, ev_bind, ev_fn1]; rfl) get_new
  obtain ⟨m9, e9, f9, p9⟩ := askIf_ok hA (f := f) (ρ := [some (.ref l), some (.int many), some (.int most), some (.ref rk), some (.ref rn), some (.ref ro), some (.ref rb), some (.ref rs), some (.ref ru), some (.tup es), some (.tup es), none]) (m := m7 ++ [.lst es]) rfl rfl rfl rfl rfl rfl (get_old go7) (get_old gb7) (get_old gs7) ⟨w3.all, by omega, by omega⟩ ⟨w4.all, w4.hi⟩ ⟨w5.all, by omega, by omega⟩ he hz (p7.app.le (by omega))
  have e10 := hS.row (m := m9) (srt_ent he) (fun d hd => (he d hd).nodes) (by decide) (by omega)
  refine ⟨m9, ?_, (((((w1.frm.trans f2).trans w3.frm).trans w4.frm).trans w5.frm).trans w6.frm).trans ((f7.more).trans f9), p9⟩
  rw [run_eq (np := 3) rfl]
  show (sceneG Fn Fd Fo Fst Fask Fsame [some (.ref l), some (.int many), some (.int most), none, none, none, none, none, none, none, none, none] m).val = _
  have t1 : dSet 3 (kindsD Fn Fd) [some (.ref l), some (.int many), some (.int most), none, none, none, none, none, none, none, none, none] m = .nx [some (.ref l), some (.int many), some (.int most), some (.ref rk), none, none, none, none, none, none, none, none] m1 := set_any e1
  have t2 : dSet 4 (namesD Fn) [some (.ref l), some (.int many), some (.int most), some (.ref rk), none, none, none, none, none, none, none, none] m1 = .nx [some (.ref l), some (.int many), some (.int most), some (.ref rk), some (.ref rn), none, none, none, none, none, none, none] m2 := set_call (cons_any (var_any rfl) (cons_any (var_any rfl) nil_any)) e2
  have t3 : dSet 5 (objsD Fo) [some (.ref l), some (.int many), some (.int most), some (.ref rk), some (.ref rn), none, none, none, none, none, none, none] m2 = .nx [some (.ref l), some (.int many), some (.int most), some (.ref rk), some (.ref rn), some (.ref ro), none, none, none, none, none, none] m3 := set_any e3
  have t4 : dSet 6 (besD Fo) [some (.ref l), some (.int many), some (.int most), some (.ref rk), some (.ref rn), some (.ref ro), none, none, none, none, none, none] m3 = .nx [some (.ref l), some (.int many), some (.int most), some (.ref rk), some (.ref rn), some (.ref ro), some (.ref rb), none, none, none, none, none] m4 := set_any e4
  have t5 : dSet 7 (storedD Fn Fd) [some (.ref l), some (.int many), some (.int most), some (.ref rk), some (.ref rn), some (.ref ro), some (.ref rb), none, none, none, none, none] m4 = .nx [some (.ref l), some (.int many), some (.int most), some (.ref rk), some (.ref rn), some (.ref ro), some (.ref rb), some (.ref rs), none, none, none, none] m5 := set_any e5
  have t6 : dSet 8 (usersD Fn Fo) [some (.ref l), some (.int many), some (.int most), some (.ref rk), some (.ref rn), some (.ref ro), some (.ref rb), some (.ref rs), none, none, none, none] m5 = .nx [some (.ref l), some (.int many), some (.int most), some (.ref rk), some (.ref rn), some (.ref ro), some (.ref rb), some (.ref rs), some (.ref ru), none, none, none] m6 := set_any e6
  have t7 : dSet 9 (storeD Fn Fst) [some (.ref l), some (.int many), some (.int most), some (.ref rk), some (.ref rn), some (.ref ro), some (.ref rb), some (.ref rs), some (.ref ru), none, none, none] m6 = .nx [some (.ref l), some (.int many), some (.int most), some (.ref rk), some (.ref rn), some (.ref ro), some (.ref rb), some (.ref rs), some (.ref ru), some (.tup es), none, none] m7 := set_any e7
  have t8 : dSet 10 keptD [some (.ref l), some (.int many), some (.int most), some (.ref rk), some (.ref rn), some (.ref ro), some (.ref rb), some (.ref rs), some (.ref ru), some (.tup es), none, none] m7 = .nx [some (.ref l), some (.int many), some (.int most), some (.ref rk), some (.ref rn), some (.ref ro), some (.ref rb), some (.ref rs), some (.ref ru), some (.tup es), some (.tup es), none] (m7 ++ [.lst es]) := set_any e8
  unfold sceneG
  rw [seq_nx t1, seq_nx t2, seq_nx t3, seq_nx t4, seq_nx t5, seq_nx t6, seq_nx t7, seq_nx t8, seq_nx e9, ev_ret, app_any (cons_any (var_any rfl) (cons_any (var_any rfl) nil_any)) e10, ev_goes, ev_val_rt]⟩
end
end DL
/-! The law on objects. -/
namespace DL
open PySem PySem.Spec L2
section
variable {Fd Fsame Fsc Fobj Fus Fat Fnam Fpot : List D → Mem → R D}
def emptyT (Fobj Fus Fnam Fat : List D → Mem → R D) : DF := (dTup (dCons (dApp Fobj [] (dCons (dTup dNil) dNil)) (dCons (dApp Fus [] (dCons (dTup dNil) dNil)) (dCons (dApp Fnam [] (dCons (dTup dNil) (dCons (dTup (dCons (dC (.str "a")) (dCons (dC (.str "b")) dNil))) dNil))) (dCons (dApp Fat [] (dCons (dTup dNil) (dCons (dTup (dCons (dC (.str "a")) (dCons (dC (.str "b")) dNil))) (dCons (dC (.str "c")) dNil)))) dNil)))))
def law11G (Fpot Fd Fsc Fsame Fobj Fus Fnam Fat : List D → Mem → R D) : DSt := (dSeq (dSet 1 (dApp Fpot [] (dCons (dVar 0) (dCons (dC (.int 1118)) dNil))))
  (dSeq (dIfS (dNot (dTru (dApp Fsc [] (dCons (dVar 1) (dCons (dBin opAdd (dC (.int 3)) (dApp Fd [] (dCons (dVar 1) (dCons (dC (.int 6)) dNil)))) (dCons (dBin opAdd (dC (.int 1)) (dApp Fd [] (dCons (dVar 1) (dCons (dC (.int 20)) dNil)))) dNil)))))) (dRet (dC (.bl false))) dNext)
  (dSeq (dIfS (dNot (dTru (dApp Fsame [] (dCons (emptyT Fobj Fus Fnam Fat) (dCons (dTup (dCons (dTup dNil) (dCons (dTup dNil) (dCons (dTup dNil) (dCons (dTup dNil) dNil))))) dNil))))) (dRet (dC (.bl false))) dNext)
  (dSeq (dIfS (dAnd (dTest (dBin opEq (dApp Fd [] (dCons (dVar 1) (dCons (dC (.int 7)) dNil))) (dC (.int 3)))) (dNot (dTru (dApp Fsc [] (dCons (dVar 1) (dCons (dC (.int 25)) (dCons (dC (.int 80)) dNil))))))) (dRet (dC (.bl false))) dNext)
  (dRet (dApp Fsc [] (dCons (dVar 1) (dCons (dC (.int 4)) (dCons (dBin opAdd (dC (.int 2)) (dApp Fd [] (dCons (dVar 1) (dCons (dC (.int 5)) dNil)))) dNil)))))))))
theorem emptyT_ok (hObj : Objs Fobj) (hUs : Users Fus) (hAt : TupsAt Fat) (hNam : Nam Fnam) {ρ : En} {m : Mem} : ∃ m', emptyT Fobj Fus Fnam Fat ρ m = .ok (.tup [.tup [], .tup [], .tup [], .tup []]) m' ∧ Frm [] m m' := by
  have no : ∀ d ∈ ([] : List D), IsEnt d := by simp
  have sa : PyData.strOk ("a" : Str) = true ∧ PyData.strOk ("b" : Str) = true ∧ PyData.strOk ("c" : Str) = true := by decide +kernel
  have sl : ("a" : Str).length ≤ 100 ∧ ("b" : Str).length ≤ 100 ∧ ("c" : Str).length ≤ 100 := by decide +kernel
  have ob : IsOb (.tup [.str "a", .str "b"]) := ⟨_, _, ⟨_, rfl, sa.1, sl.1⟩, ⟨_, rfl, sa.2.1, sl.2.1⟩, rfl⟩
  have nc : IsNm (.str "c") := ⟨_, rfl, sa.2.2, sl.2.2⟩
  obtain ⟨m1, e1, f1⟩ := hObj.ok (m := m) no (by decide)
  obtain ⟨m2, e2, f2⟩ := hUs.ok (m := m1) no (by decide)
  obtain ⟨m3, e3, f3⟩ := hNam.ok (m := m2) no (by decide) ob
  obtain ⟨m4, e4, f4⟩ := hAt.ok (m := m3) no (by decide) ob nc
  have t0 : ∀ m, dTup dNil ρ m = .ok (.tup []) m := fun m => tup_any nil_any (by decide)
  have tp : ∀ m, dTup (dCons (dC (.str "a")) (dCons (dC (.str "b")) dNil)) ρ m = .ok (.tup [.str "a", .str "b"]) m := fun m => tup_any (cons_any C_any (cons_any C_any nil_any)) (by simp)
  refine ⟨m4, ?_, ((f1.trans f2).trans f3).trans f4⟩
  unfold emptyT
  exact tup_any (cons_any (app_any (cons_any (t0 _) nil_any) e1) (cons_any (app_any (cons_any (t0 _) nil_any) e2) (cons_any (app_any (cons_any (t0 _) (cons_any (tp _) nil_any)) e3) (cons_any (app_any (cons_any (t0 _) (cons_any (tp _) (cons_any C_any nil_any))) e4) nil_any)))) (by simp)
theorem and_fst {t u : DFb} {ρ : En} {m m1 : Mem} (h : t ρ m = .ok false m1) : dAnd t u ρ m = .ok false m1 := by
  rw [ev_and, h, ev_bind, if_neg (by decide)]
theorem and_snd {t u : DFb} {ρ : En} {m m1 : Mem} {r : R Bool} (h : t ρ m = .ok true m1) (h2 : u ρ m1 = r) : dAnd t u ρ m = r := by
  rw [ev_and, h, ev_bind, if_pos rfl, h2]
structure Pots (F : List D → Mem → R D) : Prop where
  ok : ∀ {ns : List Int} {o : MO}, (o = .lst (ns.map .int) ∨ o = .frl (ns.map .int)) → ns.length ≤ 63 → ∃ l p m', F [.ref 0, .int 1118] [o] = .ok (.ref l) m' ∧ Pot m' l p 1000000000
theorem law11_ok (hP : Pots Fpot) (hD : Draw Fd) (hSc : Scene Fsc) (hS : Same Fsame) (hObj : Objs Fobj) (hUs : Users Fus) (hNam : Nam Fnam) (hAt : TupsAt Fat) {ns : List Int} {o : MO} (ho : o = .lst (ns.map .int) ∨ o = .frl (ns.map .int)) (hl : ns.length ≤ 63) :
    ∃ m', runB 1 2 (law11G Fpot Fd Fsc Fsame Fobj Fus Fnam Fat) [.ref 0] [o] = .ok (.bl true) m' := by
  obtain ⟨l, p, m0, e0, p0⟩ := hP.ok ho hl
  have t1 : dSet 1 (dApp Fpot [] (dCons (dVar 0) (dCons (dC (.int 1118)) dNil))) [some (.ref 0), none] [o] = .nx [some (.ref 0), some (.ref l)] m0 := set_call (cons_any (var_any rfl) (cons_any C_any nil_any)) e0
  -- the first scene
  obtain ⟨j1, m1, e1, a1, b1, f1, p1, _⟩ := hD.ok (f := 5000) (many := 6) (p0.le (by decide)) (by decide) (by decide)
  obtain ⟨j2, m2, e2, a2, b2, f2, p2, _⟩ := hD.ok (f := 4999) (many := 20) p1 (by decide) (by decide)
  obtain ⟨m3, e3, f3, p3⟩ := hSc.ok (f := 3999) (many := (3 + j1).toNat) (most := (1 + j2).toNat) p2 (by omega) (by omega) (by omega)
  rw [Int.toNat_of_nonneg (by omega), Int.toNat_of_nonneg (by omega)] at e3
  have dr : ∀ {k : Int} {j : Int} {m m' : Mem}, Fd [.ref l, .int k] m = .ok (.int j) m' → dApp Fd [] (dCons (dVar 1) (dCons (dC (.int k)) dNil)) [some (.ref 0), some (.ref l)] m = .ok (.int j) m' := fun h => app_any (cons_any (var_any rfl) (cons_any C_any nil_any)) h
  have t2 := if_not_true (F := Fsc) (fs := dCons (dVar 1) (dCons (dBin opAdd (dC (.int 3)) (dApp Fd [] (dCons (dVar 1) (dCons (dC (.int 6)) dNil)))) (dCons (dBin opAdd (dC (.int 1)) (dApp Fd [] (dCons (dVar 1) (dCons (dC (.int 20)) dNil)))) dNil))) (ρ := [some (.ref 0), some (.ref l)]) (cons_any (var_any rfl) (cons_any (bin_any C_any (dr e1) (ev_add_i 3 j1)) (cons_any (bin_any C_any (dr e2) (ev_add_i 1 j2)) nil_any))) e3
  -- the empty store
  obtain ⟨m4, e4, f4⟩ := emptyT_ok hObj hUs hAt hNam (ρ := [some (.ref 0), some (.ref l)]) (m := m3)
  have t0 : ∀ m, dTup dNil [some (.ref 0), some (.ref l)] m = .ok (.tup []) m := fun m => tup_any nil_any (by decide)
  have t3 := if_not_true (F := Fsame) (fs := dCons (emptyT Fobj Fus Fnam Fat) (dCons (dTup (dCons (dTup dNil) (dCons (dTup dNil) (dCons (dTup dNil) (dCons (dTup dNil) dNil))))) dNil)) (ρ := [some (.ref 0), some (.ref l)]) (cons_any e4 (cons_any (tup_any (cons_any (t0 _) (cons_any (t0 _) (cons_any (t0 _) (cons_any (t0 _) nil_any)))) (by simp)) nil_any)) (hS.ok (d := .tup [.tup [], .tup [], .tup [], .tup []]) (m := m4) rfl (by decide) (by decide))
  have p4 := p3.frm f4 (by simp) (by simp)
  -- the great scene
  obtain ⟨j5, m5, e5, a5, b5, f5, p5, _⟩ := hD.ok (f := 3998) (many := 7) p4 (by decide) (by decide)
  have q5 : dTest (dBin opEq (dApp Fd [] (dCons (dVar 1) (dCons (dC (.int 7)) dNil))) (dC (.int 3))) [some (.ref 0), some (.ref l)] m4 = .ok (decide (j5 = 3)) m5 := by
    rw [ev_test, bin_any (dr e5) C_any (ev_eq_i j5 3 m5), ev_bind]
  have t4 : ∃ m6, dIfS (dAnd (dTest (dBin opEq (dApp Fd [] (dCons (dVar 1) (dCons (dC (.int 7)) dNil))) (dC (.int 3)))) (dNot (dTru (dApp Fsc [] (dCons (dVar 1) (dCons (dC (.int 25)) (dCons (dC (.int 80)) dNil))))))) (dRet (dC (.bl false))) dNext [some (.ref 0), some (.ref l)] m4 = .nx [some (.ref 0), some (.ref l)] m6 ∧ Pot m6 l p 2998 := by
    by_cases c : j5 = 3
    · obtain ⟨m6, e6, f6, p6⟩ := hSc.ok (f := 2998) (many := 25) (most := 80) p5 (by decide) (by decide) (by decide)
      exact ⟨m6, (if_false (and_snd (q5.trans (by rw [decide_eq_true c])) (tst_true (cons_any (var_any rfl) (cons_any C_any (cons_any C_any nil_any))) e6))).trans rfl, p6⟩
    · exact ⟨m5, (if_false (and_fst (q5.trans (by rw [decide_eq_false c])))).trans rfl, p5.le (by decide)⟩
  obtain ⟨m6, t4, p6⟩ := t4
  -- the last scene
  obtain ⟨j7, m7, e7, a7, b7, f7, p7, _⟩ := hD.ok (f := 2997) (many := 5) p6 (by decide) (by decide)
  obtain ⟨m8, e8, f8, p8⟩ := hSc.ok (f := 1997) (many := 4) (most := (2 + j7).toNat) p7 (by decide) (by decide) (by omega)
  rw [Int.toNat_of_nonneg (by omega)] at e8
  have t5 : dApp Fsc [] (dCons (dVar 1) (dCons (dC (.int 4)) (dCons (dBin opAdd (dC (.int 2)) (dApp Fd [] (dCons (dVar 1) (dCons (dC (.int 5)) dNil)))) dNil))) [some (.ref 0), some (.ref l)] m6 = .ok (.bl true) m8 := app_any (cons_any (var_any rfl) (cons_any C_any (cons_any (bin_any C_any (dr e7) (ev_add_i 2 j7)) nil_any))) e8
  refine ⟨m8, ?_⟩
  rw [run_eq (np := 1) rfl]
  show (law11G Fpot Fd Fsc Fsame Fobj Fus Fnam Fat [some (.ref 0), none] [o]).val = _
  unfold law11G
  rw [seq_nx t1, seq_nx t2, seq_nx t3, seq_nx t4, ev_ret, t5, ev_goes, ev_val_rt]
end
end DL
/-! law_k11_objects: what each def means. Printed by gen.py. -/
namespace DL.k11
open PySem PySem.Spec L2 PyProof.Rows DL
def topS (i : Nat) : Stmt := PySem.Challenge.pw_nomoregranted_k11_objects.main.body.getD i (.Pass ⟨0, 0, 0, 0⟩)
abbrev s_subject_object : Stmt := topS 1
theorem sc_subject_object : FnScope ["subject"] ["subject"] (defScope s_subject_object) := ⟨rfl, rfl, rfl, by decide +kernel, rfl, by decide +kernel, by decide +kernel⟩
def g_subject_object : DSt := (dRet (dIf (dTest (dBin opIn (dBin opIxM (dVar 0) (dC (.int 0))) (dTup (dCons (dC (.str "object")) (dCons (dC (.str "set")) dNil))))) (dBin opIxM (dVar 0) (dC (.int 1))) (dC .non)))
def F_subject_object : List D → Mem → R D := runB 1 1 g_subject_object
theorem ok_subject_object {P : Program} {w : World} {K : PySem.W.Frag} {mg : Str → Option Value} {base : Heap} (B : Bi mg) (Bs : mg "set" = none) {f : Addr} {fd : FuncData} (hmg : mg "subject_object" = some (.ref f)) (Fu : Fun K "subject_object" "subject_object" s_subject_object f fd) : Cal P w K mg base 1 "subject_object" s_subject_object ["subject"] F_subject_object := by
  have bi : Binds K fd ["subject"] [] := Fu.binds fun _ _ _ _ _ _ us hl => match us, hl with | [_], _ => rfl
  have G := fn_ok (P := P) (w := w) (mg := mg) (base := base) (k := 0) (g := g_subject_object) Fu sc_subject_object fun cdv A outer s H Ex hr => by
    have o : Ok (cxOf (L2.CX P w) P w K mg base ["subject"] "subject_object" (defScope s_subject_object) f cdv A outer s H Ex) 0 := ⟨hr, rfl, sc_subject_object.nd⟩
    have tk : Takes (cxOf (L2.CX P w) P w K mg base ["subject"] "subject_object" (defScope s_subject_object) f cdv A outer s H Ex) (fun c d _ H' => Ex c d H') := takes_of rfl rfl rfl rfl
    have pt := pass_of tk
    have po := L2.passes_of (X := cxOf (L2.CX P w) P w K mg base ["subject"] "subject_object" (defScope s_subject_object) f cdv A outer s H Ex) rfl
    exact (dss_one (ds_ret (de_if (t_in o (e_ix o (de_var 0) de_int) (de_tup (da_cons de_str (da_cons de_str da_nil)))) (e_ix o (de_var 0) de_int) de_non)))
  exact ⟨f, fd, hmg, Fu, bi, G.1, G.2⟩
abbrev s_objects_of : Stmt := topS 2
theorem sc_objects_of : FnScope ["store", "found", "one", "s", "subject", "named"] ["store"] (defScope s_objects_of) := ⟨rfl, rfl, rfl, by decide +kernel, rfl, by decide +kernel, by decide +kernel⟩
def g_objects_of : DSt := (dSeq (dSet 1 dNewD)
  (dSeq (dFor (dIt (dVar 0)) (γTL 3 (γCons (γName 2) (γCons (γName 3) (γCons (γName 4) γNil)))) (dSeq (dSub (dC (.bl true)) (dVar 1) (dVar 2) opSetM)
  (dSeq (dSet 5 (dApp F_subject_object [] (dCons (dVar 4) dNil)))
  (dIfS (dTest (dBin opNotN (dVar 5) (dC .non))) (dSub (dC (.bl true)) (dVar 1) (dVar 5) opSetM) dNext))))
  (dRet (dCall (fn1 opTuple) (dCons (dCall (fn1 opSortedA) (dCons (dVar 1) dNil)) dNil)))))
def F_objects_of : List D → Mem → R D := runB 1 6 g_objects_of
theorem ok_objects_of {P : Program} {w : World} {K : PySem.W.Frag} {mg : Str → Option Value} {base : Heap} (B : Bi mg) (Bs : mg "set" = none) (c_subject_object : Cal P w K mg base 1 "subject_object" s_subject_object ["subject"] F_subject_object) {f : Addr} {fd : FuncData} (hmg : mg "objects_of" = some (.ref f)) (Fu : Fun K "objects_of" "objects_of" s_objects_of f fd) : Cal P w K mg base 2 "objects_of" s_objects_of ["store"] F_objects_of := by
  have bi : Binds K fd ["store"] [] := Fu.binds fun _ _ _ _ _ _ us hl => match us, hl with | [_], _ => rfl
  have G := fn_ok (P := P) (w := w) (mg := mg) (base := base) (k := 1) (g := g_objects_of) Fu sc_objects_of fun cdv A outer s H Ex hr => by
    have o : Ok (cxOf (L2.CX P w) P w K mg base ["store", "found", "one", "s", "subject", "named"] "objects_of" (defScope s_objects_of) f cdv A outer s H Ex) 1 := ⟨hr, rfl, sc_objects_of.nd⟩
    have tk : Takes (cxOf (L2.CX P w) P w K mg base ["store", "found", "one", "s", "subject", "named"] "objects_of" (defScope s_objects_of) f cdv A outer s H Ex) (fun c d _ H' => Ex c d H') := takes_of rfl rfl rfl rfl
    have pt := pass_of tk
    have po := L2.passes_of (X := cxOf (L2.CX P w) P w K mg base ["store", "found", "one", "s", "subject", "named"] "objects_of" (defScope s_objects_of) f cdv A outer s H Ex) rfl
    exact (dss_cons (ds_set (i := 1) o.nd rfl (by first | exact Or.inl rfl | exact Or.inr rfl) de_newD)
  (dss_cons (ds_for po o.calm (di_any (de_var 0)) (pg_TL o.calm (pgs_cons (pg_name (i := 2) o.nd rfl (by first | exact Or.inl rfl | exact Or.inr rfl)) (pgs_cons (pg_name (i := 3) o.nd rfl (by first | exact Or.inl rfl | exact Or.inr rfl)) (pgs_cons (pg_name (i := 4) o.nd rfl (by first | exact Or.inl rfl | exact Or.inr rfl)) pgs_nil)))) (gok_TL 3 (gok_cons (gok_name 2) (gok_cons (gok_name 3) (gok_cons (gok_name 4) gok_nil)))) (dss_cons (ds_sub de_bl (de_var 1) (de_var 2) (set_M o.u9) dset_M)
  (dss_cons (ds_set (i := 5) o.nd rfl (by first | exact Or.inl rfl | exact Or.inr rfl) (e_call c_subject_object (o.room.mono (by decide)) pt (da_cons (de_var 4) da_nil)))
  (dss_one (ds_if (t_notN (de_var 5) de_non) (dss_one (ds_sub de_bl (de_var 1) (de_var 5) (set_M o.u9) dset_M)) dss_nil)))))
  (dss_one (ds_ret (e_tuple B (e_sortedA o B (de_var 1)))))))
  exact ⟨f, fd, hmg, Fu, bi, G.1, G.2⟩
abbrev s_users_of : Stmt := topS 3
theorem sc_users_of : FnScope ["store", "one", "s", "subject"] ["store"] (defScope s_users_of) := ⟨rfl, rfl, rfl, by decide +kernel, rfl, by decide +kernel, by decide +kernel⟩
def g_users_of : DSt := (dRet (dCall (fn1 opTuple) (dCons (dCall (fn1 opSortedA) (dCons (dSc (dIt (dVar 0)) (γTL 3 (γCons (γName 1) (γCons (γName 2) (γCons (γName 3) γNil)))) (dTest (dBin opEq (dBin opIxM (dVar 3) (dC (.int 0))) (dC (.str "user")))) (dBin opIxM (dVar 3) (dC (.int 1))) [1, 2, 3]) dNil)) dNil)))
def F_users_of : List D → Mem → R D := runB 1 4 g_users_of
theorem ok_users_of {P : Program} {w : World} {K : PySem.W.Frag} {mg : Str → Option Value} {base : Heap} (B : Bi mg) (Bs : mg "set" = none) {f : Addr} {fd : FuncData} (hmg : mg "users_of" = some (.ref f)) (Fu : Fun K "users_of" "users_of" s_users_of f fd) : Cal P w K mg base 1 "users_of" s_users_of ["store"] F_users_of := by
  have bi : Binds K fd ["store"] [] := Fu.binds fun _ _ _ _ _ _ us hl => match us, hl with | [_], _ => rfl
  have G := fn_ok (P := P) (w := w) (mg := mg) (base := base) (k := 0) (g := g_users_of) Fu sc_users_of fun cdv A outer s H Ex hr => by
    have o : Ok (cxOf (L2.CX P w) P w K mg base ["store", "one", "s", "subject"] "users_of" (defScope s_users_of) f cdv A outer s H Ex) 0 := ⟨hr, rfl, sc_users_of.nd⟩
    have tk : Takes (cxOf (L2.CX P w) P w K mg base ["store", "one", "s", "subject"] "users_of" (defScope s_users_of) f cdv A outer s H Ex) (fun c d _ H' => Ex c d H') := takes_of rfl rfl rfl rfl
    have pt := pass_of tk
    have po := L2.passes_of (X := cxOf (L2.CX P w) P w K mg base ["store", "one", "s", "subject"] "users_of" (defScope s_users_of) f cdv A outer s H Ex) rfl
    exact (dss_one (ds_ret (e_tuple B (e_sortedA o B (de_sc (own := [("one", 1), ("s", 2), ("subject", 3)]) o.calm o.nd (di_any (de_var 0)) (blk_ok ["store", "one", "s", "subject"] (defScope s_users_of) (by decide +kernel)) (fun _ _ _ _ _ => (pg_TL (Ok.blk o).calm (pgs_cons (pg_name (i := 1) (Ok.blk o).nd rfl (by first | exact Or.inl rfl | exact Or.inr rfl)) (pgs_cons (pg_name (i := 2) (Ok.blk o).nd rfl (by first | exact Or.inl rfl | exact Or.inr rfl)) (pgs_cons (pg_name (i := 3) (Ok.blk o).nd rfl (by first | exact Or.inl rfl | exact Or.inr rfl)) pgs_nil))))) (gok_TL 3 (gok_cons (gok_name 1) (gok_cons (gok_name 2) (gok_cons (gok_name 3) gok_nil)))) (by decide) (fun _ _ _ _ _ => (dts_one (t_eq (Ok.blk o) (e_ix (Ok.blk o) (de_var 3) de_int) de_str))) (fun _ _ _ _ _ => (e_ix (Ok.blk o) (de_var 3) de_int)))))))
  exact ⟨f, fd, hmg, Fu, bi, G.1, G.2⟩
abbrev s_tuples_at : Stmt := topS 5
theorem sc_tuples_at : FnScope ["store", "item", "s", "one"] ["store", "item", "s"] (defScope s_tuples_at) := ⟨rfl, rfl, rfl, by decide +kernel, rfl, by decide +kernel, by decide +kernel⟩
def g_tuples_at : DSt := (dRet (dCall (fn1 opTuple) (dCons (dLc (dIt (dVar 0)) (γName 3) (dTest (dBin opEq (dSl opSl (dVar 3) dNoPt (dPt (dC (.int 2)))) (dTup (dCons (dVar 1) (dCons (dVar 2) dNil))))) (dVar 3) [3]) dNil)))
def F_tuples_at : List D → Mem → R D := runB 3 4 g_tuples_at
theorem ok_tuples_at {P : Program} {w : World} {K : PySem.W.Frag} {mg : Str → Option Value} {base : Heap} (B : Bi mg) (Bs : mg "set" = none) {f : Addr} {fd : FuncData} (hmg : mg "tuples_at" = some (.ref f)) (Fu : Fun K "tuples_at" "tuples_at" s_tuples_at f fd) : Cal P w K mg base 1 "tuples_at" s_tuples_at ["store", "item", "s"] F_tuples_at := by
  have bi : Binds K fd ["store", "item", "s"] [] := Fu.binds fun _ _ _ _ _ _ us hl => match us, hl with | [_, _, _], _ => rfl
  have G := fn_ok (P := P) (w := w) (mg := mg) (base := base) (k := 0) (g := g_tuples_at) Fu sc_tuples_at fun cdv A outer s H Ex hr => by
    have o : Ok (cxOf (L2.CX P w) P w K mg base ["store", "item", "s", "one"] "tuples_at" (defScope s_tuples_at) f cdv A outer s H Ex) 0 := ⟨hr, rfl, sc_tuples_at.nd⟩
    have tk : Takes (cxOf (L2.CX P w) P w K mg base ["store", "item", "s", "one"] "tuples_at" (defScope s_tuples_at) f cdv A outer s H Ex) (fun c d _ H' => Ex c d H') := takes_of rfl rfl rfl rfl
    have pt := pass_of tk
    have po := L2.passes_of (X := cxOf (L2.CX P w) P w K mg base ["store", "item", "s", "one"] "tuples_at" (defScope s_tuples_at) f cdv A outer s H Ex) rfl
    exact (dss_one (ds_ret (e_tuple B (de_lc (own := [("one", 3)]) o.calm o.nd (di_any (de_var 0)) (blk_ok ["store", "item", "s", "one"] (defScope s_tuples_at) (by decide +kernel)) (fun _ _ _ _ _ => (pg_name (i := 3) (Ok.blk o).nd rfl (by first | exact Or.inl rfl | exact Or.inr rfl))) (gok_name 3) (by decide) (fun _ _ _ _ _ => (dts_one (t_eq (Ok.blk o) (de_slice (de_var 3) do_none (do_some de_int)) (de_tup (da_cons (de_var 1) (da_cons (de_var 2) da_nil)))))) (fun _ _ _ _ _ => (de_var 3))))))
  exact ⟨f, fd, hmg, Fu, bi, G.1, G.2⟩
abbrev s_naming : Stmt := topS 6
theorem sc_naming : FnScope ["store", "item", "one"] ["store", "item"] (defScope s_naming) := ⟨rfl, rfl, rfl, by decide +kernel, rfl, by decide +kernel, by decide +kernel⟩
def g_naming : DSt := (dRet (dCall (fn1 opTuple) (dCons (dLc (dIt (dVar 0)) (γName 2) (dTest (dBin opEq (dApp F_subject_object [] (dCons (dBin opIxM (dVar 2) (dC (.int 2))) dNil)) (dVar 1))) (dVar 2) [2]) dNil)))
def F_naming : List D → Mem → R D := runB 2 3 g_naming
theorem ok_naming {P : Program} {w : World} {K : PySem.W.Frag} {mg : Str → Option Value} {base : Heap} (B : Bi mg) (Bs : mg "set" = none) (c_subject_object : Cal P w K mg base 1 "subject_object" s_subject_object ["subject"] F_subject_object) {f : Addr} {fd : FuncData} (hmg : mg "naming" = some (.ref f)) (Fu : Fun K "naming" "naming" s_naming f fd) : Cal P w K mg base 2 "naming" s_naming ["store", "item"] F_naming := by
  have bi : Binds K fd ["store", "item"] [] := Fu.binds fun _ _ _ _ _ _ us hl => match us, hl with | [_, _], _ => rfl
  have G := fn_ok (P := P) (w := w) (mg := mg) (base := base) (k := 1) (g := g_naming) Fu sc_naming fun cdv A outer s H Ex hr => by
    have o : Ok (cxOf (L2.CX P w) P w K mg base ["store", "item", "one"] "naming" (defScope s_naming) f cdv A outer s H Ex) 1 := ⟨hr, rfl, sc_naming.nd⟩
    have tk : Takes (cxOf (L2.CX P w) P w K mg base ["store", "item", "one"] "naming" (defScope s_naming) f cdv A outer s H Ex) (fun c d _ H' => Ex c d H') := takes_of rfl rfl rfl rfl
    have pt := pass_of tk
    have po := L2.passes_of (X := cxOf (L2.CX P w) P w K mg base ["store", "item", "one"] "naming" (defScope s_naming) f cdv A outer s H Ex) rfl
    exact (dss_one (ds_ret (e_tuple B (de_lc (own := [("one", 2)]) o.calm o.nd (di_any (de_var 0)) (blk_ok ["store", "item", "one"] (defScope s_naming) (by decide +kernel)) (fun _ _ _ _ _ => (pg_name (i := 2) (Ok.blk o).nd rfl (by first | exact Or.inl rfl | exact Or.inr rfl))) (gok_name 2) (by decide) (fun _ _ _ _ _ => (dts_one (t_eq (Ok.blk o) (e_call c_subject_object ((Ok.blk o).room.mono (by decide)) pass_W0 (da_cons (e_ix (Ok.blk o) (de_var 2) de_int) da_nil)) (de_var 1)))) (fun _ _ _ _ _ => (de_var 2))))))
  exact ⟨f, fd, hmg, Fu, bi, G.1, G.2⟩
abbrev s__law_pot : Stmt := topS 8
theorem sc__law_pot : FnScope ["script", "salt", "greats", "mixed", "cell", "low"] ["script", "salt"] (defScope s__law_pot) := ⟨rfl, rfl, rfl, by decide +kernel, rfl, by decide +kernel, by decide +kernel⟩
def g__law_pot : DSt := (dSeq (dSet 2 (dLst dNil))
  (dSeq (dSet 3 (dVar 1))
  (dSeq (dFor (dIt (dSl opSl (dVar 0) dNoPt (dPt (dC (.int 63))))) (γName 4) (dSeq (dSet 5 (dBin opMod (dCall (fn1 opAbs) (dCons (dCall (fn1 opIntOf) (dCons (dVar 4) dNil)) dNil)) (dBin opPowV (dBin opPowV (dC (.int 10)) (dC (.int 60))) (dC (.int 5)))))
  (dSeq (dIfS (dTest (dBin opGe (dVar 5) (dBin opPowV (dC (.int 10)) (dC (.int 18))))) (dDrop (dMt isLst mAppend (dVar 2) (dCons (dVar 5) dNil))) dNext)
  (dSet 3 (dBin opMod (dBin opAdd (dBin opAdd (dBin opMul (dVar 3) (dC (.int 39373))) (dBin opMod (dVar 5) (dC (.int 2147483587)))) (dC (.int 11))) (dC (.int 2147483629)))))))
  (dRet (dLst (dCons (dVar 2) (dCons (dVar 3) (dCons (dC (.int 0)) dNil))))))))
def F__law_pot : List D → Mem → R D := runB 2 6 g__law_pot
theorem ok__law_pot {P : Program} {w : World} {K : PySem.W.Frag} {mg : Str → Option Value} {base : Heap} (B : Bi mg) (Bs : mg "set" = none) {f : Addr} {fd : FuncData} (hmg : mg "_law_pot" = some (.ref f)) (Fu : Fun K "_law_pot" "_law_pot" s__law_pot f fd) : Cal P w K mg base 1 "_law_pot" s__law_pot ["script", "salt"] F__law_pot := by
  have bi : Binds K fd ["script", "salt"] [] := Fu.binds fun _ _ _ _ _ _ us hl => match us, hl with | [_, _], _ => rfl
  have G := fn_ok (P := P) (w := w) (mg := mg) (base := base) (k := 0) (g := g__law_pot) Fu sc__law_pot fun cdv A outer s H Ex hr => by
    have o : Ok (cxOf (L2.CX P w) P w K mg base ["script", "salt", "greats", "mixed", "cell", "low"] "_law_pot" (defScope s__law_pot) f cdv A outer s H Ex) 0 := ⟨hr, rfl, sc__law_pot.nd⟩
    have tk : Takes (cxOf (L2.CX P w) P w K mg base ["script", "salt", "greats", "mixed", "cell", "low"] "_law_pot" (defScope s__law_pot) f cdv A outer s H Ex) (fun c d _ H' => Ex c d H') := takes_of rfl rfl rfl rfl
    have pt := pass_of tk
    have po := L2.passes_of (X := cxOf (L2.CX P w) P w K mg base ["script", "salt", "greats", "mixed", "cell", "low"] "_law_pot" (defScope s__law_pot) f cdv A outer s H Ex) rfl
    exact (dss_cons (ds_set (i := 2) o.nd rfl (by first | exact Or.inl rfl | exact Or.inr rfl) (de_lst da_nil))
  (dss_cons (ds_set (i := 3) o.nd rfl (by first | exact Or.inl rfl | exact Or.inr rfl) (de_var 1))
  (dss_cons (ds_for po o.calm (di_any (de_slice (de_var 0) do_none (do_some de_int))) (pg_name (i := 4) o.nd rfl (by first | exact Or.inl rfl | exact Or.inr rfl)) (gok_name 4) (dss_cons (ds_set (i := 5) o.nd rfl (by first | exact Or.inl rfl | exact Or.inr rfl) (de_mod (e_abs B (e_intOf B (de_var 4))) (de_powV (de_powV de_int de_int) de_int)))
  (dss_cons (ds_if (t_ge (de_var 5) (de_powV de_int de_int)) (dss_one (ds_expr (e_append (de_var 2) (de_var 5)))) dss_nil)
  (dss_one (ds_set (i := 3) o.nd rfl (by first | exact Or.inl rfl | exact Or.inr rfl) (de_mod (de_add (de_add (de_mul (de_var 3) de_int) (de_mod (de_var 5) de_int)) de_int) de_int))))))
  (dss_one (ds_ret (de_lst (da_cons (de_var 2) (da_cons (de_var 3) (da_cons de_int da_nil)))))))))
  exact ⟨f, fd, hmg, Fu, bi, G.1, G.2⟩
abbrev s__law_draw : Stmt := topS 9
theorem sc__law_draw : FnScope ["pot", "many", "greats", "worth"] ["pot", "many"] (defScope s__law_draw) := ⟨rfl, rfl, rfl, by decide +kernel, rfl, by decide +kernel, by decide +kernel⟩
def g__law_draw : DSt := (dSeq (dSet 2 (dBin opIxM (dVar 0) (dC (.int 0))))
  (dSeq (dIfS (dAnd (dTru (dVar 2)) (dTest (dBin opLt (dBin opIxM (dVar 2) (dC (.int 0))) (dVar 1)))) (dDrop (dMt isLst mPopAt (dVar 2) (dCons (dC (.int 0)) dNil))) dNext)
  (dSeq (dIfS (dTru (dVar 2)) (dSeq (dSet 3 (dBin opMod (dCall (fn1 opIntOf) (dCons (dBin opIxM (dVar 2) (dC (.int 0))) dNil)) (dVar 1)))
  (dSeq (dSub (dBin opDiv (dBin opIxM (dVar 2) (dC (.int 0))) (dVar 1)) (dVar 2) (dC (.int 0)) opSetM)
  (dRet (dVar 3)))) dNext)
  (dSeq (dSub (dBin opAdd (dBin opIxM (dVar 0) (dC (.int 2))) (dC (.int 1))) (dVar 0) (dC (.int 2)) opSetM)
  (dSeq (dSub (dBin opMod (dBin opAdd (dBin opAdd (dBin opMul (dBin opIxM (dVar 0) (dC (.int 1))) (dC (.int 40692))) (dBin opMul (dBin opIxM (dVar 0) (dC (.int 2))) (dC (.int 7143)))) (dC (.int 34))) (dC (.int 2147483629))) (dVar 0) (dC (.int 1)) opSetM)
  (dRet (dBin opMod (dBin opDiv (dCall (fn1 opIntOf) (dCons (dBin opIxM (dVar 0) (dC (.int 1))) dNil)) (dC (.int 9))) (dVar 1))))))))
def F__law_draw : List D → Mem → R D := runB 2 4 g__law_draw
theorem ok__law_draw {P : Program} {w : World} {K : PySem.W.Frag} {mg : Str → Option Value} {base : Heap} (B : Bi mg) (Bs : mg "set" = none) {f : Addr} {fd : FuncData} (hmg : mg "_law_draw" = some (.ref f)) (Fu : Fun K "_law_draw" "_law_draw" s__law_draw f fd) : Cal P w K mg base 1 "_law_draw" s__law_draw ["pot", "many"] F__law_draw := by
  have bi : Binds K fd ["pot", "many"] [] := Fu.binds fun _ _ _ _ _ _ us hl => match us, hl with | [_, _], _ => rfl
  have G := fn_ok (P := P) (w := w) (mg := mg) (base := base) (k := 0) (g := g__law_draw) Fu sc__law_draw fun cdv A outer s H Ex hr => by
    have o : Ok (cxOf (L2.CX P w) P w K mg base ["pot", "many", "greats", "worth"] "_law_draw" (defScope s__law_draw) f cdv A outer s H Ex) 0 := ⟨hr, rfl, sc__law_draw.nd⟩
    have tk : Takes (cxOf (L2.CX P w) P w K mg base ["pot", "many", "greats", "worth"] "_law_draw" (defScope s__law_draw) f cdv A outer s H Ex) (fun c d _ H' => Ex c d H') := takes_of rfl rfl rfl rfl
    have pt := pass_of tk
    have po := L2.passes_of (X := cxOf (L2.CX P w) P w K mg base ["pot", "many", "greats", "worth"] "_law_draw" (defScope s__law_draw) f cdv A outer s H Ex) rfl
    exact (dss_cons (ds_set (i := 2) o.nd rfl (by first | exact Or.inl rfl | exact Or.inr rfl) (e_ix o (de_var 0) de_int))
  (dss_cons (ds_if (DW.dt (dw_and (dt_tru (de_var 2)) (dw_and1 (t_lt (e_ix o (de_var 2) de_int) (de_var 1))))) (dss_one (ds_expr (e_popAt (de_var 2) de_int))) dss_nil)
  (dss_cons (ds_if (dt_tru (de_var 2)) (dss_cons (ds_set (i := 3) o.nd rfl (by first | exact Or.inl rfl | exact Or.inr rfl) (de_mod (e_intOf B (e_ix o (de_var 2) de_int)) (de_var 1)))
  (dss_cons (ds_sub (de_fdiv (e_ix o (de_var 2) de_int) (de_var 1)) (de_var 2) de_int (set_M o.u9) dset_M)
  (dss_one (ds_ret (de_var 3))))) dss_nil)
  (dss_cons (ds_sub (de_add (e_ix o (de_var 0) de_int) de_int) (de_var 0) de_int (set_M o.u9) dset_M)
  (dss_cons (ds_sub (de_mod (de_add (de_add (de_mul (e_ix o (de_var 0) de_int) de_int) (de_mul (e_ix o (de_var 0) de_int) de_int)) de_int) de_int) (de_var 0) de_int (set_M o.u9) dset_M)
  (dss_one (ds_ret (de_mod (de_fdiv (e_intOf B (e_ix o (de_var 0) de_int)) de_int) (de_var 1)))))))))
  exact ⟨f, fd, hmg, Fu, bi, G.1, G.2⟩
abbrev s__law_one : Stmt := topS 10
theorem sc__law_one : FnScope ["pot", "things"] ["pot", "things"] (defScope s__law_one) := ⟨rfl, rfl, rfl, by decide +kernel, rfl, by decide +kernel, by decide +kernel⟩
def g__law_one : DSt := (dRet (dBin opIxM (dVar 1) (dApp F__law_draw [] (dCons (dVar 0) (dCons (dCall (fn1 opLen) (dCons (dVar 1) dNil)) dNil)))))
def F__law_one : List D → Mem → R D := runB 2 2 g__law_one
theorem ok__law_one {P : Program} {w : World} {K : PySem.W.Frag} {mg : Str → Option Value} {base : Heap} (B : Bi mg) (Bs : mg "set" = none) (c__law_draw : Cal P w K mg base 1 "_law_draw" s__law_draw ["pot", "many"] F__law_draw) {f : Addr} {fd : FuncData} (hmg : mg "_law_one" = some (.ref f)) (Fu : Fun K "_law_one" "_law_one" s__law_one f fd) : Cal P w K mg base 2 "_law_one" s__law_one ["pot", "things"] F__law_one := by
  have bi : Binds K fd ["pot", "things"] [] := Fu.binds fun _ _ _ _ _ _ us hl => match us, hl with | [_, _], _ => rfl
  have G := fn_ok (P := P) (w := w) (mg := mg) (base := base) (k := 1) (g := g__law_one) Fu sc__law_one fun cdv A outer s H Ex hr => by
    have o : Ok (cxOf (L2.CX P w) P w K mg base ["pot", "things"] "_law_one" (defScope s__law_one) f cdv A outer s H Ex) 1 := ⟨hr, rfl, sc__law_one.nd⟩
    have tk : Takes (cxOf (L2.CX P w) P w K mg base ["pot", "things"] "_law_one" (defScope s__law_one) f cdv A outer s H Ex) (fun c d _ H' => Ex c d H') := takes_of rfl rfl rfl rfl
    have pt := pass_of tk
    have po := L2.passes_of (X := cxOf (L2.CX P w) P w K mg base ["pot", "things"] "_law_one" (defScope s__law_one) f cdv A outer s H Ex) rfl
    exact (dss_one (ds_ret (e_ix o (de_var 1) (e_call c__law_draw (o.room.mono (by decide)) pt (da_cons (de_var 0) (da_cons (e_len B (de_var 1)) da_nil))))))
  exact ⟨f, fd, hmg, Fu, bi, G.1, G.2⟩
abbrev s__law_mixed : Stmt := topS 11
theorem sc__law_mixed : FnScope ["pot", "things", "left", "found", "turn"] ["pot", "things"] (defScope s__law_mixed) := ⟨rfl, rfl, rfl, by decide +kernel, rfl, by decide +kernel, by decide +kernel⟩
def g__law_mixed : DSt := (dSeq (dSet 2 (dCall (fn1 opListA) (dCons (dVar 1) dNil)))
  (dSeq (dSet 3 (dLst dNil))
  (dSeq (dFor (dRange1 (dCall (fn1 opLen) (dCons (dVar 1) dNil))) (γName 4) (dDrop (dMt isLst mAppend (dVar 3) (dCons (dMt isLst mPopAt (dVar 2) (dCons (dApp F__law_draw [] (dCons (dVar 0) (dCons (dCall (fn1 opLen) (dCons (dVar 2) dNil)) dNil))) dNil)) dNil))))
  (dRet (dVar 3)))))
def F__law_mixed : List D → Mem → R D := runB 2 5 g__law_mixed
theorem ok__law_mixed {P : Program} {w : World} {K : PySem.W.Frag} {mg : Str → Option Value} {base : Heap} (B : Bi mg) (Bs : mg "set" = none) (c__law_draw : Cal P w K mg base 1 "_law_draw" s__law_draw ["pot", "many"] F__law_draw) {f : Addr} {fd : FuncData} (hmg : mg "_law_mixed" = some (.ref f)) (Fu : Fun K "_law_mixed" "_law_mixed" s__law_mixed f fd) : Cal P w K mg base 2 "_law_mixed" s__law_mixed ["pot", "things"] F__law_mixed := by
  have bi : Binds K fd ["pot", "things"] [] := Fu.binds fun _ _ _ _ _ _ us hl => match us, hl with | [_, _], _ => rfl
  have G := fn_ok (P := P) (w := w) (mg := mg) (base := base) (k := 1) (g := g__law_mixed) Fu sc__law_mixed fun cdv A outer s H Ex hr => by
    have o : Ok (cxOf (L2.CX P w) P w K mg base ["pot", "things", "left", "found", "turn"] "_law_mixed" (defScope s__law_mixed) f cdv A outer s H Ex) 1 := ⟨hr, rfl, sc__law_mixed.nd⟩
    have tk : Takes (cxOf (L2.CX P w) P w K mg base ["pot", "things", "left", "found", "turn"] "_law_mixed" (defScope s__law_mixed) f cdv A outer s H Ex) (fun c d _ H' => Ex c d H') := takes_of rfl rfl rfl rfl
    have pt := pass_of tk
    have po := L2.passes_of (X := cxOf (L2.CX P w) P w K mg base ["pot", "things", "left", "found", "turn"] "_law_mixed" (defScope s__law_mixed) f cdv A outer s H Ex) rfl
    exact (dss_cons (ds_set (i := 2) o.nd rfl (by first | exact Or.inl rfl | exact Or.inr rfl) (e_listA o B (de_var 1)))
  (dss_cons (ds_set (i := 3) o.nd rfl (by first | exact Or.inl rfl | exact Or.inr rfl) (de_lst da_nil))
  (dss_cons (ds_for po o.calm (di_range1 (by rfl) B.range (e_len B (de_var 1))) (pg_name (i := 4) o.nd rfl (by first | exact Or.inl rfl | exact Or.inr rfl)) (gok_name 4) (dss_one (ds_expr (e_append (de_var 3) (e_popAt (de_var 2) (e_call c__law_draw (o.room.mono (by decide)) pt (da_cons (de_var 0) (da_cons (e_len B (de_var 2)) da_nil))))))))
  (dss_one (ds_ret (de_var 3))))))
  exact ⟨f, fd, hmg, Fu, bi, G.1, G.2⟩
abbrev s__law_names : Stmt := topS 12
theorem sc__law_names : FnScope ["pot", "many", "heads", "tails", "at"] ["pot", "many"] (defScope s__law_names) := ⟨rfl, rfl, rfl, by decide +kernel, rfl, by decide +kernel, by decide +kernel⟩
def g__law_names : DSt := (dSeq (dSet 2 (dApp F__law_mixed [] (dCons (dVar 0) (dCons (dC (.str "abcdefghijklmnopqrstuvwxyz")) dNil))))
  (dSeq (dSet 3 (dLst (dCons (dC (.str "")) (dCons (dC (.str "7")) (dCons (dC (.str "k")) (dCons (dC (.str "zq")) (dCons (dC (.str "1w")) (dCons (dC (.str "yonder")) (dCons (dC (.str "3c3c3c")) dNil)))))))))
  (dRet (dLc (dRange1 (dVar 1)) (γName 4) dYes (dBin opAdd (dBin opAdd (dBin opIxM (dVar 2) (dVar 4)) (dCall (fn1 opStr) (dCons (dBin opMod (dCall (fn1 opIntOf) (dCons (dBin opAdd (dBin opMul (dVar 4) (dC (.int 3))) (dC (.int 4))) dNil)) (dC (.int 10))) dNil))) (dApp F__law_one [] (dCons (dVar 0) (dCons (dVar 3) dNil)))) [4]))))
def F__law_names : List D → Mem → R D := runB 2 5 g__law_names
theorem ok__law_names {P : Program} {w : World} {K : PySem.W.Frag} {mg : Str → Option Value} {base : Heap} (B : Bi mg) (Bs : mg "set" = none) (c__law_mixed : Cal P w K mg base 2 "_law_mixed" s__law_mixed ["pot", "things"] F__law_mixed) (c__law_one : Cal P w K mg base 2 "_law_one" s__law_one ["pot", "things"] F__law_one) {f : Addr} {fd : FuncData} (hmg : mg "_law_names" = some (.ref f)) (Fu : Fun K "_law_names" "_law_names" s__law_names f fd) : Cal P w K mg base 3 "_law_names" s__law_names ["pot", "many"] F__law_names := by
  have bi : Binds K fd ["pot", "many"] [] := Fu.binds fun _ _ _ _ _ _ us hl => match us, hl with | [_, _], _ => rfl
  have G := fn_ok (P := P) (w := w) (mg := mg) (base := base) (k := 2) (g := g__law_names) Fu sc__law_names fun cdv A outer s H Ex hr => by
    have o : Ok (cxOf (L2.CX P w) P w K mg base ["pot", "many", "heads", "tails", "at"] "_law_names" (defScope s__law_names) f cdv A outer s H Ex) 2 := ⟨hr, rfl, sc__law_names.nd⟩
    have tk : Takes (cxOf (L2.CX P w) P w K mg base ["pot", "many", "heads", "tails", "at"] "_law_names" (defScope s__law_names) f cdv A outer s H Ex) (fun c d _ H' => Ex c d H') := takes_of rfl rfl rfl rfl
    have pt := pass_of tk
    have po := L2.passes_of (X := cxOf (L2.CX P w) P w K mg base ["pot", "many", "heads", "tails", "at"] "_law_names" (defScope s__law_names) f cdv A outer s H Ex) rfl
    exact (dss_cons (ds_set (i := 2) o.nd rfl (by first | exact Or.inl rfl | exact Or.inr rfl) (e_call c__law_mixed (o.room.mono (by decide)) pt (da_cons (de_var 0) (da_cons de_str da_nil))))
  (dss_cons (ds_set (i := 3) o.nd rfl (by first | exact Or.inl rfl | exact Or.inr rfl) (de_lst (da_cons de_str (da_cons de_str (da_cons de_str (da_cons de_str (da_cons de_str (da_cons de_str (da_cons de_str da_nil)))))))))
  (dss_one (ds_ret (de_lc (own := [("at", 4)]) o.calm o.nd (di_range1 (by rfl) B.range (de_var 1)) (blk_ok ["pot", "many", "heads", "tails", "at"] (defScope s__law_names) (by decide +kernel)) (fun _ _ _ _ _ => (pg_name (i := 4) (Ok.blk o).nd rfl (by first | exact Or.inl rfl | exact Or.inr rfl))) (gok_name 4) (by decide) (fun _ _ _ _ _ => dts_nil) (fun _ _ _ _ _ => (de_add (de_add (e_ix (Ok.blk o) (de_var 2) (de_var 4)) (e_strOf B (de_mod (e_intOf B (de_add (de_mul (de_var 4) de_int) de_int)) de_int))) (e_call c__law_one ((Ok.blk o).room.mono (by decide)) pass_W0 (da_cons (de_var 0) (da_cons (de_var 3) da_nil))))))))))
  exact ⟨f, fd, hmg, Fu, bi, G.1, G.2⟩
abbrev s__law_store : Stmt := topS 13
theorem sc__law_store : FnScope ["pot", "objects", "stored", "users", "relations", "most", "found", "turn", "kind", "subject"] ["pot", "objects", "stored", "users", "relations", "most"] (defScope s__law_store) := ⟨rfl, rfl, rfl, by decide +kernel, rfl, by decide +kernel, by decide +kernel⟩
def g__law_store : DSt := (dSeq (dSet 6 (dLst dNil))
  (dSeq (dFor (dRange1 (dVar 5)) (γName 7) (dSeq (dSet 8 (dApp F__law_draw [] (dCons (dVar 0) (dCons (dC (.int 5)) dNil))))
  (dSeq (dSet 9 (dTup (dCons (dC (.str "all")) dNil)))
  (dSeq (dIfS (dTest (dBin opLt (dVar 8) (dC (.int 2)))) (dSet 9 (dTup (dCons (dC (.str "user")) (dCons (dApp F__law_one [] (dCons (dVar 0) (dCons (dVar 3) dNil))) dNil)))) dNext)
  (dSeq (dIfS (dTest (dBin opEq (dVar 8) (dC (.int 2)))) (dSet 9 (dTup (dCons (dC (.str "object")) (dCons (dApp F__law_one [] (dCons (dVar 0) (dCons (dVar 1) dNil))) dNil)))) dNext)
  (dSeq (dIfS (dTest (dBin opEq (dVar 8) (dC (.int 3)))) (dSet 9 (dTup (dCons (dC (.str "set")) (dCons (dApp F__law_one [] (dCons (dVar 0) (dCons (dVar 1) dNil))) (dCons (dApp F__law_one [] (dCons (dVar 0) (dCons (dVar 4) dNil))) dNil))))) dNext)
  (dDrop (dMt isLst mAppend (dVar 6) (dCons (dTup (dCons (dApp F__law_one [] (dCons (dVar 0) (dCons (dVar 1) dNil))) (dCons (dApp F__law_one [] (dCons (dVar 0) (dCons (dVar 2) dNil))) (dCons (dVar 9) dNil)))) dNil)))))))))
  (dRet (dCall (fn1 opTuple) (dCons (dCall (fn1 opSortedA) (dCons (dCall (fn1 opSetOf) (dCons (dVar 6) dNil)) dNil)) dNil)))))
def F__law_store : List D → Mem → R D := runB 6 10 g__law_store
theorem ok__law_store {P : Program} {w : World} {K : PySem.W.Frag} {mg : Str → Option Value} {base : Heap} (B : Bi mg) (Bs : mg "set" = none) (c__law_draw : Cal P w K mg base 1 "_law_draw" s__law_draw ["pot", "many"] F__law_draw) (c__law_one : Cal P w K mg base 2 "_law_one" s__law_one ["pot", "things"] F__law_one) {f : Addr} {fd : FuncData} (hmg : mg "_law_store" = some (.ref f)) (Fu : Fun K "_law_store" "_law_store" s__law_store f fd) : Cal P w K mg base 3 "_law_store" s__law_store ["pot", "objects", "stored", "users", "relations", "most"] F__law_store := by
  have bi : Binds K fd ["pot", "objects", "stored", "users", "relations", "most"] [] := Fu.binds fun _ _ _ _ _ _ us hl => match us, hl with | [_, _, _, _, _, _], _ => rfl
  have G := fn_ok (P := P) (w := w) (mg := mg) (base := base) (k := 2) (g := g__law_store) Fu sc__law_store fun cdv A outer s H Ex hr => by
    have o : Ok (cxOf (L2.CX P w) P w K mg base ["pot", "objects", "stored", "users", "relations", "most", "found", "turn", "kind", "subject"] "_law_store" (defScope s__law_store) f cdv A outer s H Ex) 2 := ⟨hr, rfl, sc__law_store.nd⟩
    have tk : Takes (cxOf (L2.CX P w) P w K mg base ["pot", "objects", "stored", "users", "relations", "most", "found", "turn", "kind", "subject"] "_law_store" (defScope s__law_store) f cdv A outer s H Ex) (fun c d _ H' => Ex c d H') := takes_of rfl rfl rfl rfl
    have pt := pass_of tk
    have po := L2.passes_of (X := cxOf (L2.CX P w) P w K mg base ["pot", "objects", "stored", "users", "relations", "most", "found", "turn", "kind", "subject"] "_law_store" (defScope s__law_store) f cdv A outer s H Ex) rfl
    exact (dss_cons (ds_set (i := 6) o.nd rfl (by first | exact Or.inl rfl | exact Or.inr rfl) (de_lst da_nil))
  (dss_cons (ds_for po o.calm (di_range1 (by rfl) B.range (de_var 5)) (pg_name (i := 7) o.nd rfl (by first | exact Or.inl rfl | exact Or.inr rfl)) (gok_name 7) (dss_cons (ds_set (i := 8) o.nd rfl (by first | exact Or.inl rfl | exact Or.inr rfl) (e_call c__law_draw (o.room.mono (by decide)) pt (da_cons (de_var 0) (da_cons de_int da_nil))))
  (dss_cons (ds_set (i := 9) o.nd rfl (by first | exact Or.inl rfl | exact Or.inr rfl) (de_tup (da_cons de_str da_nil)))
  (dss_cons (ds_if (t_lt (de_var 8) de_int) (dss_one (ds_set (i := 9) o.nd rfl (by first | exact Or.inl rfl | exact Or.inr rfl) (de_tup (da_cons de_str (da_cons (e_call c__law_one (o.room.mono (by decide)) pt (da_cons (de_var 0) (da_cons (de_var 3) da_nil))) da_nil))))) dss_nil)
  (dss_cons (ds_if (t_eq o (de_var 8) de_int) (dss_one (ds_set (i := 9) o.nd rfl (by first | exact Or.inl rfl | exact Or.inr rfl) (de_tup (da_cons de_str (da_cons (e_call c__law_one (o.room.mono (by decide)) pt (da_cons (de_var 0) (da_cons (de_var 1) da_nil))) da_nil))))) dss_nil)
  (dss_cons (ds_if (t_eq o (de_var 8) de_int) (dss_one (ds_set (i := 9) o.nd rfl (by first | exact Or.inl rfl | exact Or.inr rfl) (de_tup (da_cons de_str (da_cons (e_call c__law_one (o.room.mono (by decide)) pt (da_cons (de_var 0) (da_cons (de_var 1) da_nil))) (da_cons (e_call c__law_one (o.room.mono (by decide)) pt (da_cons (de_var 0) (da_cons (de_var 4) da_nil))) da_nil)))))) dss_nil)
  (dss_one (ds_expr (e_append (de_var 6) (de_tup (da_cons (e_call c__law_one (o.room.mono (by decide)) pt (da_cons (de_var 0) (da_cons (de_var 1) da_nil))) (da_cons (e_call c__law_one (o.room.mono (by decide)) pt (da_cons (de_var 0) (da_cons (de_var 2) da_nil))) (da_cons (de_var 9) da_nil)))))))))))))
  (dss_one (ds_ret (e_tuple B (e_sortedA o B (e_set o Bs (de_var 6))))))))
  exact ⟨f, fd, hmg, Fu, bi, G.1, G.2⟩
abbrev s__law_same : Stmt := topS 14
theorem sc__law_same : FnScope ["told", "due", "at"] ["told", "due"] (defScope s__law_same) := ⟨rfl, rfl, rfl, by decide +kernel, rfl, by decide +kernel, by decide +kernel⟩
def g__law_same (F__law_same : List D → Mem → R D) : DSt := (dSeq (dIfS (dTest (dBin opIsN (dVar 1) (dC .non))) (dRet (dBin opIsN (dVar 0) (dC .non))) dNext)
  (dSeq (dIfS (dTru (dUn (opIsi "bool") (dVar 1))) (dRet (dAndV (dUn (opIsi "bool") (dVar 0)) (dBin opEq (dVar 0) (dVar 1)))) dNext)
  (dSeq (dIfS (dTru (dUn (opIsi "int") (dVar 1))) (dRet (dAndV (dUn (opIsi "int") (dVar 0)) (dAndV (dNotV (dUn (opIsi "bool") (dVar 0))) (dBin opEq (dVar 0) (dVar 1))))) dNext)
  (dSeq (dIfS (dTru (dUn (opIsi "str") (dVar 1))) (dRet (dAndV (dUn (opIsi "str") (dVar 0)) (dBin opEq (dVar 0) (dVar 1)))) dNext)
  (dSeq (dIfS (dOr (dNot (dTru (dUn (opIsi "tuple") (dVar 0)))) (dTest (dBin opNe (dCall (fn1 opLen) (dCons (dVar 0) dNil)) (dCall (fn1 opLen) (dCons (dVar 1) dNil))))) (dRet (dC (.bl false))) dNext)
  (dSeq (dFor (dRange1 (dCall (fn1 opLen) (dCons (dVar 1) dNil))) (γName 2) (dIfS (dNot (dTru (dApp F__law_same [] (dCons (dBin opIxM (dVar 0) (dVar 2)) (dCons (dBin opIxM (dVar 1) (dVar 2)) dNil))))) (dRet (dC (.bl false))) dNext))
  (dRet (dC (.bl true)))))))))
def R__law_same : Nat → List D → Mem → R D
  | 0 => fun _ _ => .stk
  | n + 1 => runB 2 3 (g__law_same (R__law_same n))
def F__law_same : List D → Mem → R D := R__law_same 12
theorem okr__law_same {P : Program} {w : World} {K : PySem.W.Frag} {mg : Str → Option Value} {base : Heap} (B : Bi mg) (Bs : mg "set" = none) {f : Addr} {fd : FuncData} (hmg : mg "_law_same" = some (.ref f)) (Fu : Fun K "_law_same" "_law_same" s__law_same f fd) : ∀ n, Cal P w K mg base (1 + n) "_law_same" s__law_same ["told", "due"] (R__law_same n)
  | 0 => cal_none hmg Fu sc__law_same (Fu.binds fun _ _ _ _ _ _ us hl => match us, hl with | [_, _], _ => rfl)
  | n + 1 => by
    have c__law_same := okr__law_same (P := P) (w := w) (base := base) B Bs  hmg Fu n
    have bi : Binds K fd ["told", "due"] [] := Fu.binds fun _ _ _ _ _ _ us hl => match us, hl with | [_, _], _ => rfl
    have G := fn_ok (P := P) (w := w) (mg := mg) (base := base) (k := (1 + n)) (g := (g__law_same (R__law_same n))) Fu sc__law_same fun cdv A outer s H Ex hr => by
      have o : Ok (cxOf (L2.CX P w) P w K mg base ["told", "due", "at"] "_law_same" (defScope s__law_same) f cdv A outer s H Ex) (1 + n) := ⟨hr, rfl, sc__law_same.nd⟩
      have tk : Takes (cxOf (L2.CX P w) P w K mg base ["told", "due", "at"] "_law_same" (defScope s__law_same) f cdv A outer s H Ex) (fun c d _ H' => Ex c d H') := takes_of rfl rfl rfl rfl
      have pt := pass_of tk
      have po := L2.passes_of (X := cxOf (L2.CX P w) P w K mg base ["told", "due", "at"] "_law_same" (defScope s__law_same) f cdv A outer s H Ex) rfl
      exact (dss_cons (ds_if (t_isN (de_var 1) de_non) (dss_one (ds_ret (e_isN (de_var 0) de_non))) dss_nil)
  (dss_cons (ds_if (dt_tru (e_isi B bt_bool B.bool (de_var 1))) (dss_one (ds_ret (de_and (e_isi B bt_bool B.bool (de_var 0)) (de_one (e_eq o (de_var 0) (de_var 1)))))) dss_nil)
  (dss_cons (ds_if (dt_tru (e_isi B bt_int B.int (de_var 1))) (dss_one (ds_ret (de_and (e_isi B bt_int B.int (de_var 0)) (de_and (de_not (e_isi B bt_bool B.bool (de_var 0))) (de_one (e_eq o (de_var 0) (de_var 1))))))) dss_nil)
  (dss_cons (ds_if (dt_tru (e_isi B bt_str B.str (de_var 1))) (dss_one (ds_ret (de_and (e_isi B bt_str B.str (de_var 0)) (de_one (e_eq o (de_var 0) (de_var 1)))))) dss_nil)
  (dss_cons (ds_if (DW.dt (dw_or (dt_not (dt_tru (e_isi B bt_tuple B.tuple (de_var 0)))) (dw_or1 (t_ne o (e_len B (de_var 0)) (e_len B (de_var 1)))))) (dss_one (ds_ret de_bl)) dss_nil)
  (dss_cons (ds_for po o.calm (di_range1 (by rfl) B.range (e_len B (de_var 1))) (pg_name (i := 2) o.nd rfl (by first | exact Or.inl rfl | exact Or.inr rfl)) (gok_name 2) (dss_one (ds_if (dt_not (dt_tru (e_call c__law_same (o.room.mono (by omega)) pt (da_cons (e_ix o (de_var 0) (de_var 2)) (da_cons (e_ix o (de_var 1) (de_var 2)) da_nil))))) (dss_one (ds_ret de_bl)) dss_nil)))
  (dss_one (ds_ret de_bl))))))))
    exact ⟨f, fd, hmg, Fu, bi, G.1, G.2⟩
theorem ok__law_same {P : Program} {w : World} {K : PySem.W.Frag} {mg : Str → Option Value} {base : Heap} (B : Bi mg) (Bs : mg "set" = none) {f : Addr} {fd : FuncData} (hmg : mg "_law_same" = some (.ref f)) (Fu : Fun K "_law_same" "_law_same" s__law_same f fd) : Cal P w K mg base 13 "_law_same" s__law_same ["told", "due"] F__law_same := okr__law_same B Bs  hmg Fu 12
abbrev s__law_asked : Stmt := topS 15
theorem sc__law_asked : FnScope ["pot", "store", "objects", "stored", "users", "stand", "named", "one", "s", "subject", "due", "entry"] ["pot", "store", "objects", "stored", "users"] (defScope s__law_asked) := ⟨rfl, rfl, rfl, by decide +kernel, rfl, by decide +kernel, by decide +kernel⟩
def g__law_asked : DSt := (dSeq (dSet 5 (dLst dNil))
  (dSeq (dSet 6 (dLst dNil))
  (dSeq (dFor (dIt (dVar 1)) (γTL 3 (γCons (γName 7) (γCons (γName 8) (γCons (γName 9) γNil)))) (dSeq (dDrop (dMt isLst mAppend (dVar 5) (dCons (dVar 7) dNil)))
  (dSeq (dIfS (dTest (dBin opEq (dBin opIxM (dVar 9) (dC (.int 0))) (dC (.str "user")))) (dDrop (dMt isLst mAppend (dVar 6) (dCons (dBin opIxM (dVar 9) (dC (.int 1))) dNil))) dNext)
  (dIfS (dOr (dTest (dBin opEq (dBin opIxM (dVar 9) (dC (.int 0))) (dC (.str "object")))) (dTest (dBin opEq (dBin opIxM (dVar 9) (dC (.int 0))) (dC (.str "set"))))) (dDrop (dMt isLst mAppend (dVar 5) (dCons (dBin opIxM (dVar 9) (dC (.int 1))) dNil))) dNext))))
  (dSeq (dIfS (dOr (dNot (dTru (dApp F__law_same [] (dCons (dApp F_objects_of [] (dCons (dVar 1) dNil)) (dCons (dCall (fn1 opTuple) (dCons (dCall (fn1 opSortedA) (dCons (dCall (fn1 opSetOf) (dCons (dVar 5) dNil)) dNil)) dNil)) dNil))))) (dNot (dTru (dApp F__law_same [] (dCons (dApp F_users_of [] (dCons (dVar 1) dNil)) (dCons (dCall (fn1 opTuple) (dCons (dCall (fn1 opSortedA) (dCons (dCall (fn1 opSetOf) (dCons (dVar 6) dNil)) dNil)) dNil)) dNil)))))) (dRet (dC (.bl false))) dNext)
  (dSeq (dFor (dIt (dVar 2)) (γName 7) (dSeq (dSet 10 (dCall (fn1 opTuple) (dCons (dLc (dIt (dVar 1)) (γName 11) (dAnd (dTest (dBin opIn (dBin opIxM (dBin opIxM (dVar 11) (dC (.int 2))) (dC (.int 0))) (dTup (dCons (dC (.str "object")) (dCons (dC (.str "set")) dNil))))) (dTest (dBin opEq (dBin opIxM (dBin opIxM (dVar 11) (dC (.int 2))) (dC (.int 1))) (dVar 7)))) (dVar 11) [11]) dNil)))
  (dSeq (dIfS (dNot (dTru (dApp F__law_same [] (dCons (dApp F_naming [] (dCons (dVar 1) (dCons (dVar 7) dNil))) (dCons (dVar 10) dNil))))) (dRet (dC (.bl false))) dNext)
  (dFor (dIt (dBin opAdd (dSl opSl (dVar 3) dNoPt (dPt (dC (.int 2)))) (dLst (dCons (dApp F__law_one [] (dCons (dVar 0) (dCons (dVar 3) dNil))) dNil)))) (γName 8) (dSeq (dSet 10 (dCall (fn1 opTuple) (dCons (dLc (dIt (dVar 1)) (γName 11) (dAnd (dTest (dBin opEq (dBin opIxM (dVar 11) (dC (.int 0))) (dVar 7))) (dTest (dBin opEq (dBin opIxM (dVar 11) (dC (.int 1))) (dVar 8)))) (dVar 11) [11]) dNil)))
  (dIfS (dNot (dTru (dApp F__law_same [] (dCons (dApp F_tuples_at [] (dCons (dVar 1) (dCons (dVar 7) (dCons (dVar 8) dNil)))) (dCons (dVar 10) dNil))))) (dRet (dC (.bl false))) dNext))))))
  (dRet (dC (.bl true))))))))
def F__law_asked : List D → Mem → R D := runB 5 12 g__law_asked
theorem ok__law_asked {P : Program} {w : World} {K : PySem.W.Frag} {mg : Str → Option Value} {base : Heap} (B : Bi mg) (Bs : mg "set" = none) (c__law_same : Cal P w K mg base 13 "_law_same" s__law_same ["told", "due"] F__law_same) (c_objects_of : Cal P w K mg base 2 "objects_of" s_objects_of ["store"] F_objects_of) (c_users_of : Cal P w K mg base 1 "users_of" s_users_of ["store"] F_users_of) (c_naming : Cal P w K mg base 2 "naming" s_naming ["store", "item"] F_naming) (c__law_one : Cal P w K mg base 2 "_law_one" s__law_one ["pot", "things"] F__law_one) (c_tuples_at : Cal P w K mg base 1 "tuples_at" s_tuples_at ["store", "item", "s"] F_tuples_at) {f : Addr} {fd : FuncData} (hmg : mg "_law_asked" = some (.ref f)) (Fu : Fun K "_law_asked" "_law_asked" s__law_asked f fd) : Cal P w K mg base 14 "_law_asked" s__law_asked ["pot", "store", "objects", "stored", "users"] F__law_asked := by
  have bi : Binds K fd ["pot", "store", "objects", "stored", "users"] [] := Fu.binds fun _ _ _ _ _ _ us hl => match us, hl with | [_, _, _, _, _], _ => rfl
  have G := fn_ok (P := P) (w := w) (mg := mg) (base := base) (k := 13) (g := g__law_asked) Fu sc__law_asked fun cdv A outer s H Ex hr => by
    have o : Ok (cxOf (L2.CX P w) P w K mg base ["pot", "store", "objects", "stored", "users", "stand", "named", "one", "s", "subject", "due", "entry"] "_law_asked" (defScope s__law_asked) f cdv A outer s H Ex) 13 := ⟨hr, rfl, sc__law_asked.nd⟩
    have tk : Takes (cxOf (L2.CX P w) P w K mg base ["pot", "store", "objects", "stored", "users", "stand", "named", "one", "s", "subject", "due", "entry"] "_law_asked" (defScope s__law_asked) f cdv A outer s H Ex) (fun c d _ H' => Ex c d H') := takes_of rfl rfl rfl rfl
    have pt := pass_of tk
    have po := L2.passes_of (X := cxOf (L2.CX P w) P w K mg base ["pot", "store", "objects", "stored", "users", "stand", "named", "one", "s", "subject", "due", "entry"] "_law_asked" (defScope s__law_asked) f cdv A outer s H Ex) rfl
    exact (dss_cons (ds_set (i := 5) o.nd rfl (by first | exact Or.inl rfl | exact Or.inr rfl) (de_lst da_nil))
  (dss_cons (ds_set (i := 6) o.nd rfl (by first | exact Or.inl rfl | exact Or.inr rfl) (de_lst da_nil))
  (dss_cons (ds_for po o.calm (di_any (de_var 1)) (pg_TL o.calm (pgs_cons (pg_name (i := 7) o.nd rfl (by first | exact Or.inl rfl | exact Or.inr rfl)) (pgs_cons (pg_name (i := 8) o.nd rfl (by first | exact Or.inl rfl | exact Or.inr rfl)) (pgs_cons (pg_name (i := 9) o.nd rfl (by first | exact Or.inl rfl | exact Or.inr rfl)) pgs_nil)))) (gok_TL 3 (gok_cons (gok_name 7) (gok_cons (gok_name 8) (gok_cons (gok_name 9) gok_nil)))) (dss_cons (ds_expr (e_append (de_var 5) (de_var 7)))
  (dss_cons (ds_if (t_eq o (e_ix o (de_var 9) de_int) de_str) (dss_one (ds_expr (e_append (de_var 6) (e_ix o (de_var 9) de_int)))) dss_nil)
  (dss_one (ds_if (DW.dt (dw_or (t_eq o (e_ix o (de_var 9) de_int) de_str) (dw_or1 (t_eq o (e_ix o (de_var 9) de_int) de_str)))) (dss_one (ds_expr (e_append (de_var 5) (e_ix o (de_var 9) de_int)))) dss_nil)))))
  (dss_cons (ds_if (DW.dt (dw_or (dt_not (dt_tru (e_call c__law_same (o.room.mono (by decide)) pt (da_cons (e_call c_objects_of (o.room.mono (by decide)) pt (da_cons (de_var 1) da_nil)) (da_cons (e_tuple B (e_sortedA o B (e_set o Bs (de_var 5)))) da_nil))))) (dw_or1 (dt_not (dt_tru (e_call c__law_same (o.room.mono (by decide)) pt (da_cons (e_call c_users_of (o.room.mono (by decide)) pt (da_cons (de_var 1) da_nil)) (da_cons (e_tuple B (e_sortedA o B (e_set o Bs (de_var 6)))) da_nil)))))))) (dss_one (ds_ret de_bl)) dss_nil)
  (dss_cons (ds_for po o.calm (di_any (de_var 2)) (pg_name (i := 7) o.nd rfl (by first | exact Or.inl rfl | exact Or.inr rfl)) (gok_name 7) (dss_cons (ds_set (i := 10) o.nd rfl (by first | exact Or.inl rfl | exact Or.inr rfl) (e_tuple B (de_lc (own := [("entry", 11)]) o.calm o.nd (di_any (de_var 1)) (blk_ok ["pot", "store", "objects", "stored", "users", "stand", "named", "one", "s", "subject", "due", "entry"] (defScope s__law_asked) (by decide +kernel)) (fun _ _ _ _ _ => (pg_name (i := 11) (Ok.blk o).nd rfl (by first | exact Or.inl rfl | exact Or.inr rfl))) (gok_name 11) (by decide) (fun _ _ _ _ _ => (dts_one (DW.dt (dw_and (t_in (Ok.blk o) (e_ix (Ok.blk o) (e_ix (Ok.blk o) (de_var 11) de_int) de_int) (de_tup (da_cons de_str (da_cons de_str da_nil)))) (dw_and1 (t_eq (Ok.blk o) (e_ix (Ok.blk o) (e_ix (Ok.blk o) (de_var 11) de_int) de_int) (de_var 7))))))) (fun _ _ _ _ _ => (de_var 11)))))
  (dss_cons (ds_if (dt_not (dt_tru (e_call c__law_same (o.room.mono (by decide)) pt (da_cons (e_call c_naming (o.room.mono (by decide)) pt (da_cons (de_var 1) (da_cons (de_var 7) da_nil))) (da_cons (de_var 10) da_nil))))) (dss_one (ds_ret de_bl)) dss_nil)
  (dss_one (ds_for po o.calm (di_any (de_add (de_slice (de_var 3) do_none (do_some de_int)) (de_lst (da_cons (e_call c__law_one (o.room.mono (by decide)) pt (da_cons (de_var 0) (da_cons (de_var 3) da_nil))) da_nil)))) (pg_name (i := 8) o.nd rfl (by first | exact Or.inl rfl | exact Or.inr rfl)) (gok_name 8) (dss_cons (ds_set (i := 10) o.nd rfl (by first | exact Or.inl rfl | exact Or.inr rfl) (e_tuple B (de_lc (own := [("entry", 11)]) o.calm o.nd (di_any (de_var 1)) (blk_ok ["pot", "store", "objects", "stored", "users", "stand", "named", "one", "s", "subject", "due", "entry"] (defScope s__law_asked) (by decide +kernel)) (fun _ _ _ _ _ => (pg_name (i := 11) (Ok.blk o).nd rfl (by first | exact Or.inl rfl | exact Or.inr rfl))) (gok_name 11) (by decide) (fun _ _ _ _ _ => (dts_one (DW.dt (dw_and (t_eq (Ok.blk o) (e_ix (Ok.blk o) (de_var 11) de_int) (de_var 7)) (dw_and1 (t_eq (Ok.blk o) (e_ix (Ok.blk o) (de_var 11) de_int) (de_var 8))))))) (fun _ _ _ _ _ => (de_var 11)))))
  (dss_one (ds_if (dt_not (dt_tru (e_call c__law_same (o.room.mono (by decide)) pt (da_cons (e_call c_tuples_at (o.room.mono (by decide)) pt (da_cons (de_var 1) (da_cons (de_var 7) (da_cons (de_var 8) da_nil)))) (da_cons (de_var 10) da_nil))))) (dss_one (ds_ret de_bl)) dss_nil))))))))
  (dss_one (ds_ret de_bl)))))))
  exact ⟨f, fd, hmg, Fu, bi, G.1, G.2⟩
abbrev s__law_scene : Stmt := topS 16
theorem sc__law_scene : FnScope ["pot", "many", "most", "kinds", "names", "objects", "beside", "stored", "users", "store", "kept", "name"] ["pot", "many", "most"] (defScope s__law_scene) := ⟨rfl, rfl, rfl, by decide +kernel, rfl, by decide +kernel, by decide +kernel⟩
def g__law_scene : DSt := (dSeq (dSet 3 (dSl opSl (dApp F__law_names [] (dCons (dVar 0) (dCons (dC (.int 3)) dNil))) dNoPt (dPt (dBin opAdd (dC (.int 1)) (dApp F__law_draw [] (dCons (dVar 0) (dCons (dC (.int 3)) dNil)))))))
  (dSeq (dSet 4 (dApp F__law_names [] (dCons (dVar 0) (dCons (dVar 1) dNil))))
  (dSeq (dSet 5 (dLc (dIt (dSl opSl (dVar 4) dNoPt (dPt (dBin opSub (dVar 1) (dC (.int 1)))))) (γName 11) dYes (dTup (dCons (dApp F__law_one [] (dCons (dVar 0) (dCons (dVar 3) dNil))) (dCons (dVar 11) dNil))) [11]))
  (dSeq (dSet 6 (dLst (dCons (dTup (dCons (dApp F__law_one [] (dCons (dVar 0) (dCons (dVar 3) dNil))) (dCons (dBin opIxM (dVar 4) (dUn opNeg (dC (.int 1)))) dNil))) (dCons (dTup (dCons (dBin opIxM (dVar 3) (dC (.int 0))) (dCons (dBin opIxM (dBin opIxM (dVar 5) (dUn opNeg (dC (.int 1)))) (dC (.int 1))) dNil))) (dCons (dTup (dCons (dBin opIxM (dBin opIxM (dVar 5) (dC (.int 0))) (dC (.int 1))) (dCons (dBin opIxM (dVar 3) (dUn opNeg (dC (.int 1)))) dNil))) dNil)))))
  (dSeq (dSet 7 (dApp F__law_names [] (dCons (dVar 0) (dCons (dBin opAdd (dC (.int 1)) (dApp F__law_draw [] (dCons (dVar 0) (dCons (dC (.int 4)) dNil)))) dNil))))
  (dSeq (dSet 8 (dLc (dIt (dApp F__law_names [] (dCons (dVar 0) (dCons (dC (.int 4)) dNil)))) (γName 11) dYes (dApp F__law_one [] (dCons (dVar 0) (dCons (dLst (dCons (dVar 11) (dCons (dApp F__law_one [] (dCons (dVar 0) (dCons (dVar 4) dNil))) dNil))) dNil))) [11]))
  (dSeq (dSet 9 (dApp F__law_store [] (dCons (dVar 0) (dCons (dVar 5) (dCons (dVar 7) (dCons (dVar 8) (dCons (dApp F__law_names [] (dCons (dVar 0) (dCons (dC (.int 3)) dNil))) (dCons (dVar 2) dNil))))))))
  (dSeq (dSet 10 (dCall (fn1 opTuple) (dCons (dCall (fn1 opListA) (dCons (dVar 9) dNil)) dNil)))
  (dSeq (dIfS (dNot (dTru (dApp F__law_asked [] (dCons (dVar 0) (dCons (dVar 9) (dCons (dBin opAdd (dVar 5) (dVar 6)) (dCons (dBin opAdd (dVar 7) (dLst (dCons (dBin opIxM (dBin opIxM (dVar 5) (dC (.int 0))) (dC (.int 0))) dNil))) (dCons (dVar 8) dNil)))))))) (dRet (dC (.bl false))) dNext)
  (dRet (dApp F__law_same [] (dCons (dVar 9) (dCons (dVar 10) dNil)))))))))))))
def F__law_scene : List D → Mem → R D := runB 3 12 g__law_scene
theorem ok__law_scene {P : Program} {w : World} {K : PySem.W.Frag} {mg : Str → Option Value} {base : Heap} (B : Bi mg) (Bs : mg "set" = none) (c__law_names : Cal P w K mg base 3 "_law_names" s__law_names ["pot", "many"] F__law_names) (c__law_store : Cal P w K mg base 3 "_law_store" s__law_store ["pot", "objects", "stored", "users", "relations", "most"] F__law_store) (c__law_same : Cal P w K mg base 13 "_law_same" s__law_same ["told", "due"] F__law_same) (c__law_one : Cal P w K mg base 2 "_law_one" s__law_one ["pot", "things"] F__law_one) (c__law_asked : Cal P w K mg base 14 "_law_asked" s__law_asked ["pot", "store", "objects", "stored", "users"] F__law_asked) (c__law_draw : Cal P w K mg base 1 "_law_draw" s__law_draw ["pot", "many"] F__law_draw) {f : Addr} {fd : FuncData} (hmg : mg "_law_scene" = some (.ref f)) (Fu : Fun K "_law_scene" "_law_scene" s__law_scene f fd) : Cal P w K mg base 15 "_law_scene" s__law_scene ["pot", "many", "most"] F__law_scene := by
  have bi : Binds K fd ["pot", "many", "most"] [] := Fu.binds fun _ _ _ _ _ _ us hl => match us, hl with | [_, _, _], _ => rfl
  have G := fn_ok (P := P) (w := w) (mg := mg) (base := base) (k := 14) (g := g__law_scene) Fu sc__law_scene fun cdv A outer s H Ex hr => by
    have o : Ok (cxOf (L2.CX P w) P w K mg base ["pot", "many", "most", "kinds", "names", "objects", "beside", "stored", "users", "store", "kept", "name"] "_law_scene" (defScope s__law_scene) f cdv A outer s H Ex) 14 := ⟨hr, rfl, sc__law_scene.nd⟩
    have tk : Takes (cxOf (L2.CX P w) P w K mg base ["pot", "many", "most", "kinds", "names", "objects", "beside", "stored", "users", "store", "kept", "name"] "_law_scene" (defScope s__law_scene) f cdv A outer s H Ex) (fun c d _ H' => Ex c d H') := takes_of rfl rfl rfl rfl
    have pt := pass_of tk
    have po := L2.passes_of (X := cxOf (L2.CX P w) P w K mg base ["pot", "many", "most", "kinds", "names", "objects", "beside", "stored", "users", "store", "kept", "name"] "_law_scene" (defScope s__law_scene) f cdv A outer s H Ex) rfl
    exact (dss_cons (ds_set (i := 3) o.nd rfl (by first | exact Or.inl rfl | exact Or.inr rfl) (de_slice (e_call c__law_names (o.room.mono (by decide)) pt (da_cons (de_var 0) (da_cons de_int da_nil))) do_none (do_some (de_add de_int (e_call c__law_draw (o.room.mono (by decide)) pt (da_cons (de_var 0) (da_cons de_int da_nil)))))))
  (dss_cons (ds_set (i := 4) o.nd rfl (by first | exact Or.inl rfl | exact Or.inr rfl) (e_call c__law_names (o.room.mono (by decide)) pt (da_cons (de_var 0) (da_cons (de_var 1) da_nil))))
  (dss_cons (ds_setLc (i := 5) (own := [("name", 11)]) o.calm o.nd rfl rfl rfl (di_any (de_slice (de_var 4) do_none (do_some (de_subI (de_var 1) de_int)))) (blk_ok ["pot", "many", "most", "kinds", "names", "objects", "beside", "stored", "users", "store", "kept", "name"] (defScope s__law_scene) (by decide +kernel)) (fun _ _ _ _ _ => (pg_name (i := 11) (Ok.blk o).nd rfl (by first | exact Or.inl rfl | exact Or.inr rfl))) (gok_name 11) (by decide) (fun _ _ _ _ _ => dts_nil) (fun _ _ _ _ _ => (de_tup (da_cons (e_call c__law_one ((Ok.blk o).room.mono (by decide)) pass_W0 (da_cons (de_var 0) (da_cons (de_var 3) da_nil))) (da_cons (de_var 11) da_nil)))))
  (dss_cons (ds_set (i := 6) o.nd rfl (by first | exact Or.inl rfl | exact Or.inr rfl) (de_lst (da_cons (de_tup (da_cons (e_call c__law_one (o.room.mono (by decide)) pt (da_cons (de_var 0) (da_cons (de_var 3) da_nil))) (da_cons (e_ix o (de_var 4) (de_neg de_int)) da_nil))) (da_cons (de_tup (da_cons (e_ix o (de_var 3) de_int) (da_cons (e_ix o (e_ix o (de_var 5) (de_neg de_int)) de_int) da_nil))) (da_cons (de_tup (da_cons (e_ix o (e_ix o (de_var 5) de_int) de_int) (da_cons (e_ix o (de_var 3) (de_neg de_int)) da_nil))) da_nil)))))
  (dss_cons (ds_set (i := 7) o.nd rfl (by first | exact Or.inl rfl | exact Or.inr rfl) (e_call c__law_names (o.room.mono (by decide)) pt (da_cons (de_var 0) (da_cons (de_add de_int (e_call c__law_draw (o.room.mono (by decide)) pt (da_cons (de_var 0) (da_cons de_int da_nil)))) da_nil))))
  (dss_cons (ds_setLc (i := 8) (own := [("name", 11)]) o.calm o.nd rfl rfl rfl (di_any (e_call c__law_names (o.room.mono (by decide)) pt (da_cons (de_var 0) (da_cons de_int da_nil)))) (blk_ok ["pot", "many", "most", "kinds", "names", "objects", "beside", "stored", "users", "store", "kept", "name"] (defScope s__law_scene) (by decide +kernel)) (fun _ _ _ _ _ => (pg_name (i := 11) (Ok.blk o).nd rfl (by first | exact Or.inl rfl | exact Or.inr rfl))) (gok_name 11) (by decide) (fun _ _ _ _ _ => dts_nil) (fun _ _ _ _ _ => (e_call c__law_one ((Ok.blk o).room.mono (by decide)) pass_W0 (da_cons (de_var 0) (da_cons (de_lst (da_cons (de_var 11) (da_cons (e_call c__law_one ((Ok.blk o).room.mono (by decide)) pass_W0 (da_cons (de_var 0) (da_cons (de_var 4) da_nil))) da_nil))) da_nil)))))
  (dss_cons (ds_set (i := 9) o.nd rfl (by first | exact Or.inl rfl | exact Or.inr rfl) (e_call c__law_store (o.room.mono (by decide)) pt (da_cons (de_var 0) (da_cons (de_var 5) (da_cons (de_var 7) (da_cons (de_var 8) (da_cons (e_call c__law_names (o.room.mono (by decide)) pt (da_cons (de_var 0) (da_cons de_int da_nil))) (da_cons (de_var 2) da_nil))))))))
  (dss_cons (ds_set (i := 10) o.nd rfl (by first | exact Or.inl rfl | exact Or.inr rfl) (e_tuple B (e_listA o B (de_var 9))))
  (dss_cons (ds_if (dt_not (dt_tru (e_call c__law_asked (o.room.mono (by decide)) pt (da_cons (de_var 0) (da_cons (de_var 9) (da_cons (de_add (de_var 5) (de_var 6)) (da_cons (de_add (de_var 7) (de_lst (da_cons (e_ix o (e_ix o (de_var 5) de_int) de_int) da_nil))) (da_cons (de_var 8) da_nil)))))))) (dss_one (ds_ret de_bl)) dss_nil)
  (dss_one (ds_ret (e_call c__law_same (o.room.mono (by decide)) pt (da_cons (de_var 9) (da_cons (de_var 10) da_nil))))))))))))))
  exact ⟨f, fd, hmg, Fu, bi, G.1, G.2⟩
abbrev s_law : Stmt := topS 17
theorem sc_law : FnScope ["script", "pot"] ["script"] (defScope s_law) := ⟨rfl, rfl, rfl, by decide +kernel, rfl, by decide +kernel, by decide +kernel⟩
def g_law : DSt := (dSeq (dSet 1 (dApp F__law_pot [] (dCons (dVar 0) (dCons (dC (.int 1118)) dNil))))
  (dSeq (dIfS (dNot (dTru (dApp F__law_scene [] (dCons (dVar 1) (dCons (dBin opAdd (dC (.int 3)) (dApp F__law_draw [] (dCons (dVar 1) (dCons (dC (.int 6)) dNil)))) (dCons (dBin opAdd (dC (.int 1)) (dApp F__law_draw [] (dCons (dVar 1) (dCons (dC (.int 20)) dNil)))) dNil)))))) (dRet (dC (.bl false))) dNext)
  (dSeq (dIfS (dNot (dTru (dApp F__law_same [] (dCons (dTup (dCons (dApp F_objects_of [] (dCons (dTup dNil) dNil)) (dCons (dApp F_users_of [] (dCons (dTup dNil) dNil)) (dCons (dApp F_naming [] (dCons (dTup dNil) (dCons (dTup (dCons (dC (.str "a")) (dCons (dC (.str "b")) dNil))) dNil))) (dCons (dApp F_tuples_at [] (dCons (dTup dNil) (dCons (dTup (dCons (dC (.str "a")) (dCons (dC (.str "b")) dNil))) (dCons (dC (.str "c")) dNil)))) dNil))))) (dCons (dTup (dCons (dTup dNil) (dCons (dTup dNil) (dCons (dTup dNil) (dCons (dTup dNil) dNil))))) dNil))))) (dRet (dC (.bl false))) dNext)
  (dSeq (dIfS (dAnd (dTest (dBin opEq (dApp F__law_draw [] (dCons (dVar 1) (dCons (dC (.int 7)) dNil))) (dC (.int 3)))) (dNot (dTru (dApp F__law_scene [] (dCons (dVar 1) (dCons (dC (.int 25)) (dCons (dC (.int 80)) dNil))))))) (dRet (dC (.bl false))) dNext)
  (dRet (dApp F__law_scene [] (dCons (dVar 1) (dCons (dC (.int 4)) (dCons (dBin opAdd (dC (.int 2)) (dApp F__law_draw [] (dCons (dVar 1) (dCons (dC (.int 5)) dNil)))) dNil)))))))))
def F_law : List D → Mem → R D := runB 1 2 g_law
theorem ok_law {P : Program} {w : World} {K : PySem.W.Frag} {mg : Str → Option Value} {base : Heap} (B : Bi mg) (Bs : mg "set" = none) (c__law_pot : Cal P w K mg base 1 "_law_pot" s__law_pot ["script", "salt"] F__law_pot) (c__law_scene : Cal P w K mg base 15 "_law_scene" s__law_scene ["pot", "many", "most"] F__law_scene) (c__law_same : Cal P w K mg base 13 "_law_same" s__law_same ["told", "due"] F__law_same) (c__law_draw : Cal P w K mg base 1 "_law_draw" s__law_draw ["pot", "many"] F__law_draw) (c_objects_of : Cal P w K mg base 2 "objects_of" s_objects_of ["store"] F_objects_of) (c_users_of : Cal P w K mg base 1 "users_of" s_users_of ["store"] F_users_of) (c_naming : Cal P w K mg base 2 "naming" s_naming ["store", "item"] F_naming) (c_tuples_at : Cal P w K mg base 1 "tuples_at" s_tuples_at ["store", "item", "s"] F_tuples_at) {f : Addr} {fd : FuncData} (hmg : mg "law" = some (.ref f)) (Fu : Fun K "law" "law" s_law f fd) : Cal P w K mg base 16 "law" s_law ["script"] F_law := by
  have bi : Binds K fd ["script"] [] := Fu.binds fun _ _ _ _ _ _ us hl => match us, hl with | [_], _ => rfl
  have G := fn_ok (P := P) (w := w) (mg := mg) (base := base) (k := 15) (g := g_law) Fu sc_law fun cdv A outer s H Ex hr => by
    have o : Ok (cxOf (L2.CX P w) P w K mg base ["script", "pot"] "law" (defScope s_law) f cdv A outer s H Ex) 15 := ⟨hr, rfl, sc_law.nd⟩
    have tk : Takes (cxOf (L2.CX P w) P w K mg base ["script", "pot"] "law" (defScope s_law) f cdv A outer s H Ex) (fun c d _ H' => Ex c d H') := takes_of rfl rfl rfl rfl
    have pt := pass_of tk
    have po := L2.passes_of (X := cxOf (L2.CX P w) P w K mg base ["script", "pot"] "law" (defScope s_law) f cdv A outer s H Ex) rfl
    exact (dss_cons (ds_set (i := 1) o.nd rfl (by first | exact Or.inl rfl | exact Or.inr rfl) (e_call c__law_pot (o.room.mono (by decide)) pt (da_cons (de_var 0) (da_cons de_int da_nil))))
  (dss_cons (ds_if (dt_not (dt_tru (e_call c__law_scene (o.room.mono (by decide)) pt (da_cons (de_var 1) (da_cons (de_add de_int (e_call c__law_draw (o.room.mono (by decide)) pt (da_cons (de_var 1) (da_cons de_int da_nil)))) (da_cons (de_add de_int (e_call c__law_draw (o.room.mono (by decide)) pt (da_cons (de_var 1) (da_cons de_int da_nil)))) da_nil)))))) (dss_one (ds_ret de_bl)) dss_nil)
  (dss_cons (ds_if (dt_not (dt_tru (e_call c__law_same (o.room.mono (by decide)) pt (da_cons (de_tup (da_cons (e_call c_objects_of (o.room.mono (by decide)) pt (da_cons (de_tup da_nil) da_nil)) (da_cons (e_call c_users_of (o.room.mono (by decide)) pt (da_cons (de_tup da_nil) da_nil)) (da_cons (e_call c_naming (o.room.mono (by decide)) pt (da_cons (de_tup da_nil) (da_cons (de_tup (da_cons de_str (da_cons de_str da_nil))) da_nil))) (da_cons (e_call c_tuples_at (o.room.mono (by decide)) pt (da_cons (de_tup da_nil) (da_cons (de_tup (da_cons de_str (da_cons de_str da_nil))) (da_cons de_str da_nil)))) da_nil))))) (da_cons (de_tup (da_cons (de_tup da_nil) (da_cons (de_tup da_nil) (da_cons (de_tup da_nil) (da_cons (de_tup da_nil) da_nil))))) da_nil))))) (dss_one (ds_ret de_bl)) dss_nil)
  (dss_cons (ds_if (DW.dt (dw_and (t_eq o (e_call c__law_draw (o.room.mono (by decide)) pt (da_cons (de_var 1) (da_cons de_int da_nil))) de_int) (dw_and1 (dt_not (dt_tru (e_call c__law_scene (o.room.mono (by decide)) pt (da_cons (de_var 1) (da_cons de_int (da_cons de_int da_nil))))))))) (dss_one (ds_ret de_bl)) dss_nil)
  (dss_one (ds_ret (e_call c__law_scene (o.room.mono (by decide)) pt (da_cons (de_var 1) (da_cons de_int (da_cons (de_add de_int (e_call c__law_draw (o.room.mono (by decide)) pt (da_cons (de_var 1) (da_cons de_int da_nil)))) da_nil))))))))))
  exact ⟨f, fd, hmg, Fu, bi, G.1, G.2⟩
end DL.k11
/-! The law on objects, at the functions told. -/
namespace DL.k11
open PySem PySem.Spec L2 DL
theorem x_pot : Pots F__law_pot := ⟨fun ho hl => pot_ok (a := 39373) (b := 2147483587) (c := 11) (d := 2147483629) (by decide) (by decide) (by decide) (by decide) (salt := 1118) (by decide) ho hl⟩
theorem x_draw : Draw F__law_draw := draw_ok (a := 40692) (b := 7143) (c := 34) (d := 2147483629) (e := 9) (by decide) (by decide) (by decide) (by decide) (by decide)
theorem x_one : One F__law_one := oneG_ok x_draw
theorem x_mixed : Mixed F__law_mixed := mixedG_ok x_draw
theorem x_names : Names F__law_names := namesH_ok x_mixed x_one
theorem x_store : Store F__law_store := storeG_ok x_draw x_one
theorem r_same : ∀ n, R__law_same n = lawSameR n
  | 0 => rfl
  | n + 1 => by
    show runB 2 3 (g__law_same (R__law_same n)) = runB 2 3 (lawSameG (lawSameR n))
    rw [r_same n]
    rfl
theorem x_same : Same F__law_same := by
  unfold F__law_same
  rw [r_same]
  exact lawSame_ok
theorem x_subj : Subj F_subject_object := subj_ok
theorem x_objs : Objs F_objects_of := objG_ok x_subj
theorem x_users : Users F_users_of := usersG_ok
theorem x_at : TupsAt F_tuples_at := atG_ok
theorem x_nam : Nam F_naming := namG_ok x_subj
theorem x_asked : Asked F__law_asked := askG_ok x_same x_objs x_users x_at x_nam x_one
theorem x_scene : Scene F__law_scene := sceneG_ok x_names x_draw x_one x_store x_asked x_same
theorem pure_law : ∀ (ns : List Int) (o : MO), (o = .lst (ns.map .int) ∨ o = .frl (ns.map .int)) → ns.length ≤ 63 → ∃ m', F_law [.ref 0] [o] = .ok (.bl true) m' := fun ns o ho hl => law11_ok x_pot x_draw x_scene x_same x_objs x_users x_nam x_at ho hl
end DL.k11
namespace DL.k11
open PySem PySem.Spec L2 PyProof.Rows DL
def spLaw (K : PySem.W.Frag) : Sp := fun vs H Q _ => ∃ (a : Addr) (ns : List Int), vs = [.ref a] ∧ SqL K H a (ns.map V.int) ∧ ns.length ≤ 63 ∧ ∀ H', Q (.bl true) H'
theorem sp_law {K : PySem.W.Frag} {w : World} {mg : Str → Option Value} {vs : List V} {H : Hp} {Q : VK} {E : XK} (h : spLaw K vs H Q E) : spD K w mg 1 F_law vs H Q E := by
  obtain ⟨a, ns, rfl, hS, hl, q⟩ := h
  exact law_start (fun o ho => pure_law ns o ho hl) hS q
theorem all_mk {P : Program} {w : World} {K : PySem.W.Frag} {h : Heap} {mg : Str → Option Value} {fa : Addr} (X : K.In h) (G : h.Ns mainGlobals mg) (hfa : mg "law" = some (.ref fa))
    {f0 : Addr} {od0 an0 : Option Addr} {sl0 : Array (Option Value)} {oc0 kV0 dc0 pm0 cd0 ct0 : Value}
    {f1 : Addr} {od1 an1 : Option Addr} {sl1 : Array (Option Value)} {oc1 kV1 dc1 pm1 cd1 ct1 : Value}
    {f2 : Addr} {od2 an2 : Option Addr} {sl2 : Array (Option Value)} {oc2 kV2 dc2 pm2 cd2 ct2 : Value}
    {f3 : Addr} {od3 an3 : Option Addr} {sl3 : Array (Option Value)} {oc3 kV3 dc3 pm3 cd3 ct3 : Value}
    {f4 : Addr} {od4 an4 : Option Addr} {sl4 : Array (Option Value)} {oc4 kV4 dc4 pm4 cd4 ct4 : Value}
    {f5 : Addr} {od5 an5 : Option Addr} {sl5 : Array (Option Value)} {oc5 kV5 dc5 pm5 cd5 ct5 : Value}
    {f6 : Addr} {od6 an6 : Option Addr} {sl6 : Array (Option Value)} {oc6 kV6 dc6 pm6 cd6 ct6 : Value}
    {f7 : Addr} {od7 an7 : Option Addr} {sl7 : Array (Option Value)} {oc7 kV7 dc7 pm7 cd7 ct7 : Value}
    {f8 : Addr} {od8 an8 : Option Addr} {sl8 : Array (Option Value)} {oc8 kV8 dc8 pm8 cd8 ct8 : Value}
    {f9 : Addr} {od9 an9 : Option Addr} {sl9 : Array (Option Value)} {oc9 kV9 dc9 pm9 cd9 ct9 : Value}
    {f10 : Addr} {od10 an10 : Option Addr} {sl10 : Array (Option Value)} {oc10 kV10 dc10 pm10 cd10 ct10 : Value}
    {f11 : Addr} {od11 an11 : Option Addr} {sl11 : Array (Option Value)} {oc11 kV11 dc11 pm11 cd11 ct11 : Value}
    {f12 : Addr} {od12 an12 : Option Addr} {sl12 : Array (Option Value)} {oc12 kV12 dc12 pm12 cd12 ct12 : Value}
    {f13 : Addr} {od13 an13 : Option Addr} {sl13 : Array (Option Value)} {oc13 kV13 dc13 pm13 cd13 ct13 : Value}
    {f14 : Addr} {od14 an14 : Option Addr} {sl14 : Array (Option Value)} {oc14 kV14 dc14 pm14 cd14 ct14 : Value}
    (a0 : PySem.W.nsIn K mainGlobals "subject_object" = some (some (.ref f0)))
    (l0 : K.lookup f0 = some ⟨oc0, od0, .func (PySem.W.fnOf "subject_object" "subject_object" (defArgs s_subject_object) (defBody s_subject_object) (defScope s_subject_object) .none kV0 dc0 pm0 an0 cd0 ct0), sl0⟩)
    (c0 : PySem.W.codeIn K cd0 "subject_object" = true)
    (k0 : PySem.W.keepIn K (.ref f0) = true)
    (a1 : PySem.W.nsIn K mainGlobals "objects_of" = some (some (.ref f1)))
    (l1 : K.lookup f1 = some ⟨oc1, od1, .func (PySem.W.fnOf "objects_of" "objects_of" (defArgs s_objects_of) (defBody s_objects_of) (defScope s_objects_of) .none kV1 dc1 pm1 an1 cd1 ct1), sl1⟩)
    (c1 : PySem.W.codeIn K cd1 "objects_of" = true)
    (k1 : PySem.W.keepIn K (.ref f1) = true)
    (a2 : PySem.W.nsIn K mainGlobals "users_of" = some (some (.ref f2)))
    (l2 : K.lookup f2 = some ⟨oc2, od2, .func (PySem.W.fnOf "users_of" "users_of" (defArgs s_users_of) (defBody s_users_of) (defScope s_users_of) .none kV2 dc2 pm2 an2 cd2 ct2), sl2⟩)
    (c2 : PySem.W.codeIn K cd2 "users_of" = true)
    (k2 : PySem.W.keepIn K (.ref f2) = true)
    (a3 : PySem.W.nsIn K mainGlobals "tuples_at" = some (some (.ref f3)))
    (l3 : K.lookup f3 = some ⟨oc3, od3, .func (PySem.W.fnOf "tuples_at" "tuples_at" (defArgs s_tuples_at) (defBody s_tuples_at) (defScope s_tuples_at) .none kV3 dc3 pm3 an3 cd3 ct3), sl3⟩)
    (c3 : PySem.W.codeIn K cd3 "tuples_at" = true)
    (k3 : PySem.W.keepIn K (.ref f3) = true)
    (a4 : PySem.W.nsIn K mainGlobals "naming" = some (some (.ref f4)))
    (l4 : K.lookup f4 = some ⟨oc4, od4, .func (PySem.W.fnOf "naming" "naming" (defArgs s_naming) (defBody s_naming) (defScope s_naming) .none kV4 dc4 pm4 an4 cd4 ct4), sl4⟩)
    (c4 : PySem.W.codeIn K cd4 "naming" = true)
    (k4 : PySem.W.keepIn K (.ref f4) = true)
    (a5 : PySem.W.nsIn K mainGlobals "_law_pot" = some (some (.ref f5)))
    (l5 : K.lookup f5 = some ⟨oc5, od5, .func (PySem.W.fnOf "_law_pot" "_law_pot" (defArgs s__law_pot) (defBody s__law_pot) (defScope s__law_pot) .none kV5 dc5 pm5 an5 cd5 ct5), sl5⟩)
    (c5 : PySem.W.codeIn K cd5 "_law_pot" = true)
    (k5 : PySem.W.keepIn K (.ref f5) = true)
    (a6 : PySem.W.nsIn K mainGlobals "_law_draw" = some (some (.ref f6)))
    (l6 : K.lookup f6 = some ⟨oc6, od6, .func (PySem.W.fnOf "_law_draw" "_law_draw" (defArgs s__law_draw) (defBody s__law_draw) (defScope s__law_draw) .none kV6 dc6 pm6 an6 cd6 ct6), sl6⟩)
    (c6 : PySem.W.codeIn K cd6 "_law_draw" = true)
    (k6 : PySem.W.keepIn K (.ref f6) = true)
    (a7 : PySem.W.nsIn K mainGlobals "_law_one" = some (some (.ref f7)))
    (l7 : K.lookup f7 = some ⟨oc7, od7, .func (PySem.W.fnOf "_law_one" "_law_one" (defArgs s__law_one) (defBody s__law_one) (defScope s__law_one) .none kV7 dc7 pm7 an7 cd7 ct7), sl7⟩)
    (c7 : PySem.W.codeIn K cd7 "_law_one" = true)
    (k7 : PySem.W.keepIn K (.ref f7) = true)
    (a8 : PySem.W.nsIn K mainGlobals "_law_mixed" = some (some (.ref f8)))
    (l8 : K.lookup f8 = some ⟨oc8, od8, .func (PySem.W.fnOf "_law_mixed" "_law_mixed" (defArgs s__law_mixed) (defBody s__law_mixed) (defScope s__law_mixed) .none kV8 dc8 pm8 an8 cd8 ct8), sl8⟩)
    (c8 : PySem.W.codeIn K cd8 "_law_mixed" = true)
    (k8 : PySem.W.keepIn K (.ref f8) = true)
    (a9 : PySem.W.nsIn K mainGlobals "_law_names" = some (some (.ref f9)))
    (l9 : K.lookup f9 = some ⟨oc9, od9, .func (PySem.W.fnOf "_law_names" "_law_names" (defArgs s__law_names) (defBody s__law_names) (defScope s__law_names) .none kV9 dc9 pm9 an9 cd9 ct9), sl9⟩)
    (c9 : PySem.W.codeIn K cd9 "_law_names" = true)
    (k9 : PySem.W.keepIn K (.ref f9) = true)
    (a10 : PySem.W.nsIn K mainGlobals "_law_store" = some (some (.ref f10)))
    (l10 : K.lookup f10 = some ⟨oc10, od10, .func (PySem.W.fnOf "_law_store" "_law_store" (defArgs s__law_store) (defBody s__law_store) (defScope s__law_store) .none kV10 dc10 pm10 an10 cd10 ct10), sl10⟩)
    (c10 : PySem.W.codeIn K cd10 "_law_store" = true)
    (k10 : PySem.W.keepIn K (.ref f10) = true)
    (a11 : PySem.W.nsIn K mainGlobals "_law_same" = some (some (.ref f11)))
    (l11 : K.lookup f11 = some ⟨oc11, od11, .func (PySem.W.fnOf "_law_same" "_law_same" (defArgs s__law_same) (defBody s__law_same) (defScope s__law_same) .none kV11 dc11 pm11 an11 cd11 ct11), sl11⟩)
    (c11 : PySem.W.codeIn K cd11 "_law_same" = true)
    (k11 : PySem.W.keepIn K (.ref f11) = true)
    (a12 : PySem.W.nsIn K mainGlobals "_law_asked" = some (some (.ref f12)))
    (l12 : K.lookup f12 = some ⟨oc12, od12, .func (PySem.W.fnOf "_law_asked" "_law_asked" (defArgs s__law_asked) (defBody s__law_asked) (defScope s__law_asked) .none kV12 dc12 pm12 an12 cd12 ct12), sl12⟩)
    (c12 : PySem.W.codeIn K cd12 "_law_asked" = true)
    (k12 : PySem.W.keepIn K (.ref f12) = true)
    (a13 : PySem.W.nsIn K mainGlobals "_law_scene" = some (some (.ref f13)))
    (l13 : K.lookup f13 = some ⟨oc13, od13, .func (PySem.W.fnOf "_law_scene" "_law_scene" (defArgs s__law_scene) (defBody s__law_scene) (defScope s__law_scene) .none kV13 dc13 pm13 an13 cd13 ct13), sl13⟩)
    (c13 : PySem.W.codeIn K cd13 "_law_scene" = true)
    (k13 : PySem.W.keepIn K (.ref f13) = true)
    (a14 : PySem.W.nsIn K mainGlobals "law" = some (some (.ref f14)))
    (l14 : K.lookup f14 = some ⟨oc14, od14, .func (PySem.W.fnOf "law" "law" (defArgs s_law) (defBody s_law) (defScope s_law) .none kV14 dc14 pm14 an14 cd14 ct14), sl14⟩)
    (c14 : PySem.W.codeIn K cd14 "law" = true)
    (k14 : PySem.W.keepIn K (.ref f14) = true)
    (z_len : PySem.W.nsIn K mainGlobals "len" = some none)
    (z_abs : PySem.W.nsIn K mainGlobals "abs" = some none)
    (z_int : PySem.W.nsIn K mainGlobals "int" = some none)
    (z_str : PySem.W.nsIn K mainGlobals "str" = some none)
    (z_list : PySem.W.nsIn K mainGlobals "list" = some none)
    (z_tuple : PySem.W.nsIn K mainGlobals "tuple" = some none)
    (z_max : PySem.W.nsIn K mainGlobals "max" = some none)
    (z_min : PySem.W.nsIn K mainGlobals "min" = some none)
    (z_sorted : PySem.W.nsIn K mainGlobals "sorted" = some none)
    (z_bool : PySem.W.nsIn K mainGlobals "bool" = some none)
    (z_dict : PySem.W.nsIn K mainGlobals "dict" = some none)
    (z_range : PySem.W.nsIn K mainGlobals "range" = some none)
    (z_reversed : PySem.W.nsIn K mainGlobals "reversed" = some none)
    (z_enumerate : PySem.W.nsIn K mainGlobals "enumerate" = some none)
    (z_isinstance : PySem.W.nsIn K mainGlobals "isinstance" = some none)
    (z_any : PySem.W.nsIn K mainGlobals "any" = some none)
    (z_all : PySem.W.nsIn K mainGlobals "all" = some none)
    (z_set : PySem.W.nsIn K mainGlobals "set" = some none) :
    ∃ fd : FuncData, (∀ (s : Shared) (v : Value), BindsTo s fd ⟨[v], []⟩ [("script", v)]) ∧ ∀ base : Heap, K.In base → base.Ns mainGlobals mg → FnOk P w K mg base (L2.CX P w) 16 fa fd ["script"] (spLaw K) := by
  have e := hfa.symm.trans (PySem.W.mg_of X G a14)
  cases e
  have B : Bi mg := ⟨PySem.W.mg_none_of X G z_len, PySem.W.mg_none_of X G z_abs, PySem.W.mg_none_of X G z_int, PySem.W.mg_none_of X G z_str, PySem.W.mg_none_of X G z_list, PySem.W.mg_none_of X G z_tuple, PySem.W.mg_none_of X G z_max, PySem.W.mg_none_of X G z_min, PySem.W.mg_none_of X G z_sorted, PySem.W.mg_none_of X G z_bool, PySem.W.mg_none_of X G z_dict, PySem.W.mg_none_of X G z_range, PySem.W.mg_none_of X G z_reversed, PySem.W.mg_none_of X G z_enumerate, PySem.W.mg_none_of X G z_isinstance, PySem.W.mg_none_of X G z_any, PySem.W.mg_none_of X G z_all⟩
  have Bs : mg "set" = none := PySem.W.mg_none_of X G z_set
  have F0 := fun_mk (st := s_subject_object) l0 c0 k0
  have F1 := fun_mk (st := s_objects_of) l1 c1 k1
  have F2 := fun_mk (st := s_users_of) l2 c2 k2
  have F3 := fun_mk (st := s_tuples_at) l3 c3 k3
  have F4 := fun_mk (st := s_naming) l4 c4 k4
  have F5 := fun_mk (st := s__law_pot) l5 c5 k5
  have F6 := fun_mk (st := s__law_draw) l6 c6 k6
  have F7 := fun_mk (st := s__law_one) l7 c7 k7
  have F8 := fun_mk (st := s__law_mixed) l8 c8 k8
  have F9 := fun_mk (st := s__law_names) l9 c9 k9
  have F10 := fun_mk (st := s__law_store) l10 c10 k10
  have F11 := fun_mk (st := s__law_same) l11 c11 k11
  have F12 := fun_mk (st := s__law_asked) l12 c12 k12
  have F13 := fun_mk (st := s__law_scene) l13 c13 k13
  have F14 := fun_mk (st := s_law) l14 c14 k14
  refine ⟨PySem.W.fnOf "law" "law" (defArgs s_law) (defBody s_law) (defScope s_law) .none kV14 dc14 pm14 an14 cd14 ct14, fun s v => .of_eq rfl, fun base _ _ => ?_⟩
  have c_subject_object := ok_subject_object (P := P) (w := w) (base := base) B Bs  (PySem.W.mg_of X G a0) F0
  have c_objects_of := ok_objects_of (P := P) (w := w) (base := base) B Bs c_subject_object (PySem.W.mg_of X G a1) F1
  have c_users_of := ok_users_of (P := P) (w := w) (base := base) B Bs  (PySem.W.mg_of X G a2) F2
  have c_tuples_at := ok_tuples_at (P := P) (w := w) (base := base) B Bs  (PySem.W.mg_of X G a3) F3
  have c_naming := ok_naming (P := P) (w := w) (base := base) B Bs c_subject_object (PySem.W.mg_of X G a4) F4
  have c__law_pot := ok__law_pot (P := P) (w := w) (base := base) B Bs  (PySem.W.mg_of X G a5) F5
  have c__law_draw := ok__law_draw (P := P) (w := w) (base := base) B Bs  (PySem.W.mg_of X G a6) F6
  have c__law_one := ok__law_one (P := P) (w := w) (base := base) B Bs c__law_draw (PySem.W.mg_of X G a7) F7
  have c__law_mixed := ok__law_mixed (P := P) (w := w) (base := base) B Bs c__law_draw (PySem.W.mg_of X G a8) F8
  have c__law_names := ok__law_names (P := P) (w := w) (base := base) B Bs c__law_mixed c__law_one (PySem.W.mg_of X G a9) F9
  have c__law_store := ok__law_store (P := P) (w := w) (base := base) B Bs c__law_draw c__law_one (PySem.W.mg_of X G a10) F10
  have c__law_same := ok__law_same (P := P) (w := w) (base := base) B Bs  (PySem.W.mg_of X G a11) F11
  have c__law_asked := ok__law_asked (P := P) (w := w) (base := base) B Bs c__law_same c_objects_of c_users_of c_naming c__law_one c_tuples_at (PySem.W.mg_of X G a12) F12
  have c__law_scene := ok__law_scene (P := P) (w := w) (base := base) B Bs c__law_names c__law_store c__law_same c__law_one c__law_asked c__law_draw (PySem.W.mg_of X G a13) F13
  have c_law := ok_law (P := P) (w := w) (base := base) B Bs c__law_pot c__law_scene c__law_same c__law_draw c_objects_of c_users_of c_naming c_tuples_at (PySem.W.mg_of X G a14) F14
  exact (cal_at c_law (PySem.W.mg_of X G a14) F14).imp fun vs H Q E h => sp_law h
end DL.k11
open PySem PySem.W PyProof.Rows
set_option maxHeartbeats 0 in
theorem PySem.Challenge.cw_nomoregranted_k11_objects_holds : PySem.Challenge.rw_nomoregranted_k11_objects.Holds := by
  w_on; o_law; k_head; (case hw => w_witness2)
  k_fill
  refine L2.walk_of (l := PySem.Challenge.rw_nomoregranted_k11_objects) (n := 63) (k := 16) (x := "script") (CX := fun w => L2.CX (PySem.Challenge.rw_nomoregranted_k11_objects).prog w) (sp := fun w => DL.k11.spLaw _) rfl (by decide) rfl ⟨rfl, by decide, by decide⟩ (fun w h Y => PySem.W.kIn_of Y) ?F (fun _ _ a ns hl _ hS => ⟨a, ns, rfl, hS, hl, fun _ => rfl⟩) (fun _ _ _ _ _ h => by obtain ⟨_, _, _, _, _, _, _, _, _, _, _, _, z⟩ := h; exact z)
  case F =>
    intro w mg fa h KX G hmg
    refine' DL.k11.all_mk KX G hmg ?a0 ?l0 ?c0 ?k0 ?a1 ?l1 ?c1 ?k1 ?a2 ?l2 ?c2 ?k2 ?a3 ?l3 ?c3 ?k3 ?a4 ?l4 ?c4 ?k4 ?a5 ?l5 ?c5 ?k5 ?a6 ?l6 ?c6 ?k6 ?a7 ?l7 ?c7 ?k7 ?a8 ?l8 ?c8 ?k8 ?a9 ?l9 ?c9 ?k9 ?a10 ?l10 ?c10 ?k10 ?a11 ?l11 ?c11 ?k11 ?a12 ?l12 ?c12 ?k12 ?a13 ?l13 ?c13 ?k13 ?a14 ?l14 ?c14 ?k14 ?z_len ?z_abs ?z_int ?z_str ?z_list ?z_tuple ?z_max ?z_min ?z_sorted ?z_bool ?z_dict ?z_range ?z_reversed ?z_enumerate ?z_isinstance ?z_any ?z_all ?z_set
    (case a0 => k_is)
    (case l0 => k_is)
    (case c0 => k_is)
    (case k0 => k_is)
    (case a1 => k_is)
    (case l1 => k_is)
    (case c1 => k_is)
    (case k1 => k_is)
    (case a2 => k_is)
    (case l2 => k_is)
    (case c2 => k_is)
    (case k2 => k_is)
    (case a3 => k_is)
    (case l3 => k_is)
    (case c3 => k_is)
    (case k3 => k_is)
    (case a4 => k_is)
    (case l4 => k_is)
    (case c4 => k_is)
    (case k4 => k_is)
    (case a5 => k_is)
    (case l5 => k_is)
    (case c5 => k_is)
    (case k5 => k_is)
    (case a6 => k_is)
    (case l6 => k_is)
    (case c6 => k_is)
    (case k6 => k_is)
    (case a7 => k_is)
    (case l7 => k_is)
    (case c7 => k_is)
    (case k7 => k_is)
    (case a8 => k_is)
    (case l8 => k_is)
    (case c8 => k_is)
    (case k8 => k_is)
    (case a9 => k_is)
    (case l9 => k_is)
    (case c9 => k_is)
    (case k9 => k_is)
    (case a10 => k_is)
    (case l10 => k_is)
    (case c10 => k_is)
    (case k10 => k_is)
    (case a11 => k_is)
    (case l11 => k_is)
    (case c11 => k_is)
    (case k11 => k_is)
    (case a12 => k_is)
    (case l12 => k_is)
    (case c12 => k_is)
    (case k12 => k_is)
    (case a13 => k_is)
    (case l13 => k_is)
    (case c13 => k_is)
    (case k13 => k_is)
    (case a14 => k_is)
    (case l14 => k_is)
    (case c14 => k_is)
    (case k14 => k_is)
    (case z_len => k_is)
    (case z_abs => k_is)
    (case z_int => k_is)
    (case z_str => k_is)
    (case z_list => k_is)
    (case z_tuple => k_is)
    (case z_max => k_is)
    (case z_min => k_is)
    (case z_sorted => k_is)
    (case z_bool => k_is)
    (case z_dict => k_is)
    (case z_range => k_is)
    (case z_reversed => k_is)
    (case z_enumerate => k_is)
    (case z_isinstance => k_is)
    (case z_any => k_is)
    (case z_all => k_is)
    (case z_set => k_is)
