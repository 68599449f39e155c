import PyProof.Rows.All
import Wide.All
import OpenK.AllK
import Wide.FinOn
import HandS.TupSets
import KE.SortData
import HandS.SetFor
import HandS.ForMost
import HandS.Deep
import HandS.TupAny
import HandS.TupLe
import HandS.Style
import HandS.Conv
import HandS.Wide
import HandS.Evl
import HandS.Strs
import PySem.Challenge.RW_hangbridge_k41_whole_equality_of_policie
import HandS.SortInts
import HandS.DictComp
import HandS.Comp
import HandS.Iter
import KE.GoesEnum
import HandS.EndBits
import PyProof.ReprRoads
import PyProof.ReprLen
set_option Elab.async false
set_option linter.all false
set_option maxRecDepth 100000
set_option maxHeartbeats 4000000
/-! ## HBSet -/
/-! sets of tuples of ints whose table may have any size 2^t: the probe's way meets every slot -/
namespace HB
open PySem PySem.Spec PyProof.Rows L2

/-! ### 5 x + 1 modulo 2^t has one round -/
def s5 : Nat → Nat
  | 0 => 0
  | c + 1 => 5 * s5 c + 1
theorem five_pow : ∀ c, 5 ^ c = 4 * s5 c + 1
  | 0 => rfl
  | c + 1 => by rw [Nat.pow_succ, five_pow c, s5]; omega
theorem s5_add (a : Nat) : ∀ b, s5 (a + b) = 5 ^ b * s5 a + s5 b
  | 0 => by simp [s5]
  | b + 1 => by
    show 5 * s5 (a + b) + 1 = 5 ^ (b + 1) * s5 a + (5 * s5 b + 1)
    rw [s5_add a b, Nat.pow_succ, Nat.mul_add, ← Nat.mul_assoc, Nat.mul_comm 5 (5 ^ b)]
    omega
theorem s5_dbl (d : Nat) : s5 (d + d) = 2 * (s5 d * (2 * s5 d + 1)) := by
  rw [s5_add, five_pow, Nat.add_mul, Nat.mul_add]
  have e1 : 4 * s5 d * s5 d = 4 * (s5 d * s5 d) := Nat.mul_assoc _ _ _
  have e2 : s5 d * (2 * s5 d) = 2 * (s5 d * s5 d) := by rw [Nat.mul_comm, Nat.mul_assoc]
  rw [e1, e2]; omega
theorem s5_odd : ∀ c, s5 c % 2 = c % 2
  | 0 => rfl
  | c + 1 => by rw [s5]; have := s5_odd c; omega
theorem odd_cop {b : Nat} (h : b % 2 = 1) (t : Nat) : Nat.Coprime (2 ^ t) b := by
  refine Nat.Coprime.pow_left t ?_
  show Nat.gcd 2 b = 1
  rw [Nat.gcd_rec, h]; exact Nat.gcd_one_left 2
theorem s5_dvd : ∀ (t c : Nat), 2 ^ t ∣ s5 c → 2 ^ t ∣ c
  | 0, _, _ => Nat.one_dvd _
  | t + 1, c, h => by
    have h2 : s5 c % 2 = 0 := Nat.mod_eq_zero_of_dvd (Nat.dvd_trans (by rw [Nat.pow_succ]; exact Nat.dvd_mul_left 2 (2 ^ t)) h)
    rw [s5_odd] at h2
    obtain ⟨d, rfl⟩ : ∃ d, c = d + d := ⟨c / 2, by omega⟩
    rw [s5_dbl, Nat.pow_succ, Nat.mul_comm (2 ^ t) 2] at h
    have h3 := Nat.dvd_of_mul_dvd_mul_left (by decide : 0 < 2) h
    have h4 := (odd_cop (b := 2 * s5 d + 1) (by omega) t).dvd_of_dvd_mul_right h3
    have h5 := s5_dvd t d h4
    rw [Nat.pow_succ, Nat.mul_comm, show d + d = 2 * d by omega]
    exact Nat.mul_dvd_mul_left 2 h5
theorem lcg_at {m i : Nat} (hi : i ≤ m) : ∀ k, lcgI m i k = (i + s5 k * (4 * i + 1)) % (m + 1)
  | 0 => by
    show i = (i + 0 * (4 * i + 1)) % (m + 1)
    rw [Nat.zero_mul, Nat.add_zero, Nat.mod_eq_of_lt (by omega)]
  | k + 1 => by
    show (lcgI m i k * 5 + 1) % (m + 1) = _
    rw [lcg_at hi k, Nat.add_mod, Nat.mul_mod, Nat.mod_mod, ← Nat.mul_mod, ← Nat.add_mod, s5]
    congr 1
    rw [Nat.add_mul, Nat.add_mul, Nat.one_mul, Nat.mul_assoc 5, Nat.mul_comm _ 5]
    omega
/-- the size is a power of two -/
def MaskP (m : Nat) : Prop := ∃ t, m + 1 = 2 ^ t ∧ 3 ≤ t
theorem maskP_odd {m : Nat} (h : MaskP m) : m % 2 = 1 := by
  obtain ⟨t, e, ht⟩ := h
  obtain ⟨u, rfl⟩ : ∃ u, t = u + 1 := ⟨t - 1, by omega⟩
  rw [Nat.pow_succ] at e; omega
theorem lcg_inj {m i a b : Nat} (hm : MaskP m) (hi : i ≤ m) (hab : a ≤ b) (hb : b ≤ m) (e : lcgI m i a = lcgI m i b) : a = b := by
  obtain ⟨t, et, _⟩ := hm
  rw [lcg_at hi, lcg_at hi] at e
  obtain ⟨c, rfl⟩ : ∃ c, b = c + a := ⟨b - a, by omega⟩
  have e2 : s5 (c + a) * (4 * i + 1) = s5 a * (4 * i + 1) + 5 ^ a * s5 c * (4 * i + 1) := by rw [s5_add, Nat.add_mul]; omega
  have h1 : (m + 1) ∣ 5 ^ a * s5 c * (4 * i + 1) := by
    have q := Nat.sub_mod_eq_zero_of_mod_eq e.symm
    rw [e2, show i + (s5 a * (4 * i + 1) + 5 ^ a * s5 c * (4 * i + 1)) - (i + s5 a * (4 * i + 1)) = 5 ^ a * s5 c * (4 * i + 1) by omega] at q
    exact Nat.dvd_of_mod_eq_zero q
  rw [et] at h1
  have h2 := (odd_cop (b := 4 * i + 1) (by omega) t).dvd_of_dvd_mul_right h1
  have h3 := (odd_cop (b := 5 ^ a) (by rw [five_pow]; omega) t).dvd_of_dvd_mul_left h2
  have h4 := s5_dvd t c h3
  rw [← et] at h4
  have : c = 0 := Nat.eq_zero_of_dvd_of_lt h4 (by omega)
  omega
theorem lcg_meets {m i j : Nat} (hm : MaskP m) (hi : i ≤ m) (hj : j ≤ m) : ∃ k, k ≤ m ∧ lcgI m i k = j := by
  rcases Classical.em (∃ k, k ≤ m ∧ lcgI m i k = j) with c | c
  · exact c
  · exfalso
    have nd : ((List.range (m + 1)).map (lcgI m i)).Nodup := by
      refine List.pairwise_map.mpr (List.pairwise_lt_range.imp_of_mem fun {a b} ha hb hlt e => ?_)
      have := lcg_inj hm hi (Nat.le_of_lt hlt) (Nat.le_of_lt_succ (List.mem_range.mp hb)) e
      omega
    have q := nat_nodup_len _ ((List.range (m + 1)).erase j) nd fun x hx => by
      obtain ⟨k, hk, rfl⟩ := List.mem_map.mp hx
      refine (List.mem_erase_of_ne fun z => c ⟨k, Nat.le_of_lt_succ (List.mem_range.mp hk), z⟩).2 (List.mem_range.mpr ?_)
      rw [lcg_at hi]
      exact Nat.mod_lt _ (Nat.succ_pos _)
    rw [List.length_map, List.length_erase_of_mem (List.mem_range.mpr (Nat.lt_succ_of_le hj)), List.length_range] at q
    omega

/-! ### the way meets each slot -/
theorem starts_meet {m : Nat} (hm : MaskP m) (h : Int) {j : Nat} (hj : j ≤ m) : ∃ n, n ≤ m + 12 ∧ runI m (SetTable.bits h) n = j := by
  obtain ⟨k, hk, e⟩ := lcg_meets hm (runI_le m (SetTable.bits h) 12) hj
  refine ⟨12 + k, by omega, ?_⟩
  rw [runI_tail (bits_lt h), e]
theorem way_meets {m : Nat} (hm : MaskP m) (h : Int) {j : Nat} (hj : j ≤ m) : ∃ k, k < 10 * SetTable.turns m ∧ way m h k = j := by
  obtain ⟨n, hn, e⟩ := starts_meet hm h hj
  obtain ⟨k, hk, e2⟩ := run_nth m (SetTable.bits h) n
  refine ⟨k, ?_, ?_⟩
  · unfold SetTable.turns; omega
  · show (nth m _ k).j = j
    rw [e2]; exact e
theorem way_in (m : Nat) (h : Int) (k : Nat) : way m h k ≤ m := by
  have hi : SetTable.bits h % (m + 1) ≤ m := Nat.le_of_lt_succ (Nat.mod_lt _ (Nat.succ_pos _))
  have q := nth_in (m := m) k (runAt m (SetTable.bits h % (m + 1)) (SetTable.bits h)) (by
    have r := runEnd_bd hi
    show SetTable.bits h % (m + 1) + (SetTable.runEnd m _ - _) ≤ m
    omega)
  exact Nat.le_trans (Nat.le_add_right _ _) q

/-! ### a table whose elements are found again -/
structure TabG (t : SetTable) (hs : List Int) : Prop where
  up : Ris t.place.toList
  nodum : t.dummies = #[]
  many : t.place.size = hs.length
  pw : MaskP t.mask
  inn : ∀ x ∈ t.place.toList, x ≤ t.mask
  back : ∀ (i : Nat) (h : Int) (j : Nat), hs[i]? = some h → t.place.toList[i]? = some j → ∃ k, way t.mask h k = j ∧ ∀ c, c < k → way t.mask h c ∈ t.place.toList
section
variable {t : SetTable} {hs : List Int}
theorem TabG.len (T : TabG t hs) : t.place.toList.length = hs.length := by rw [Array.length_toList]; exact T.many
theorem TabG.gap (T : TabG t hs) (hl : hs.length ≤ t.mask) (h : Int) : ∃ G, G < 10 * SetTable.turns t.mask ∧ way t.mask h G ∉ t.place.toList ∧ ∀ c, c < G → way t.mask h c ∈ t.place.toList := by
  obtain ⟨j, hj, hn⟩ := st_missing t.place.toList (t.mask + 1) (by rw [T.len]; omega)
  obtain ⟨k, hk, e⟩ := way_meets T.pw h (Nat.le_of_lt_succ hj)
  obtain ⟨G, g1, g2, g3⟩ := st_least (p := fun c => way t.mask h c ∉ t.place.toList) k (fun z => hn (e ▸ z))
  exact ⟨G, Nat.lt_of_le_of_lt g1 hk, g2, fun c hc => Classical.not_not.mp (g3 c hc)⟩
theorem TabG.ahead (T : TabG t hs) {h : Int} {G i j : Nat} (hG : way t.mask h G ∉ t.place.toList) (hi : hs[i]? = some h) (hj : t.place.toList[i]? = some j) : ∃ k, k < G ∧ way t.mask h k = j := by
  obtain ⟨k, e, b⟩ := T.back i h j hi hj
  rcases Nat.lt_or_ge k G with c | c
  · exact ⟨k, c, e⟩
  · exfalso
    rcases Nat.lt_or_ge G k with d | d
    · exact hG (b G d)
    · have : k = G := by omega
      exact hG (by rw [← this, e]; exact List.mem_of_getElem? hj)
/-- one more element, at the first gap of its way -/
theorem TabG.one (T : TabG t hs) {h : Int} {G j : Nat} (ej : way t.mask h G = j) (hG : j ∉ t.place.toList) (hb : ∀ c, c < G → way t.mask h c ∈ t.place.toList) :
    SetTable.below t.place j ≤ hs.length ∧ TabG (t.put j).1 (hs.take (SetTable.below t.place j) ++ h :: hs.drop (SetTable.below t.place j)) ∧ (t.put j).1.fill = hs.length + 1 := by
  have cut := (below_cut T.up j).1
  generalize hp : SetTable.below t.place j = p at cut
  have hp1 : p ≤ t.place.toList.length := by rw [Array.length_toList]; exact cut
  have hp2 : p ≤ hs.length := by rw [← T.many]; exact cut
  have pl : (t.put j).1.place.toList = t.place.toList.take p ++ j :: t.place.toList.drop p := by rw [put_place, hp]
  have many : (t.put j).1.place.size = hs.length + 1 := by rw [← Array.length_toList, pl, len_ins _ hp1, T.len]
  have old : ∀ {x : Nat}, x ∈ t.place.toList → x ∈ (t.put j).1.place.toList := fun hx => pl ▸ mem_ins.2 (.inr hx)
  refine ⟨hp2, ⟨ris_insert T.up fun z => hG (List.mem_of_getElem? (by rw [Array.getElem?_toList]; exact z)), put_dm T.nodum j, by rw [len_ins _ hp2]; exact many, T.pw, fun x hx => ?_, fun i h' j' e1 e2 => ?_⟩, ?_⟩
  · rw [pl] at hx
    exact (mem_ins.1 hx).elim (fun z => by rw [z, ← ej]; exact way_in _ _ _) (T.inn x)
  · show ∃ k, way t.mask h' k = j' ∧ ∀ c, c < k → way t.mask h' c ∈ (t.put j).1.place.toList
    rw [tins_get hs hp2] at e1
    rw [pl, tins_get _ hp1] at e2
    have olds : ∀ n, hs[n]? = some h' → t.place.toList[n]? = some j' → ∃ k, way t.mask h' k = j' ∧ ∀ c, c < k → way t.mask h' c ∈ (t.put j).1.place.toList := fun n a b => by
      obtain ⟨k, q, z⟩ := T.back n h' j' a b
      exact ⟨k, q, fun c hc => old (z c hc)⟩
    rcases Nat.lt_trichotomy i p with c | c | c
    · rw [if_pos c] at e1 e2
      exact olds i e1 e2
    · rw [if_neg (by omega), if_pos c] at e1 e2
      cases e1
      cases e2
      exact ⟨G, ej, fun c hc => old (hb c hc)⟩
    · rw [if_neg (by omega), if_neg (by omega)] at e1 e2
      exact olds (i - 1) e1 e2
  · show (t.put j).1.place.size + (t.put j).1.dummies.size = _
    rw [put_dm T.nodum j, many]; rfl
end

/-! ### laying anew -/
theorem free_at {m : Nat} (hm : MaskP m) (owner : Array (Option Nat)) (h : Int) {j : Nat} (hj : j ≤ m) (hf : oAt owner j = none) :
    ∃ G, SetTable.layClean.free m owner (SetTable.turns m) (SetTable.bits h % (m + 1)) (SetTable.bits h) = some (way m h G) ∧ oAt owner (way m h G) = none ∧ ∀ c, c < G → oAt owner (way m h c) ≠ none := by
  obtain ⟨n, hn, e⟩ := starts_meet hm h hj
  generalize hN : off m (SetTable.bits h % (m + 1)) (SetTable.bits h) n = N
  have hw : way m h N = j := by
    rw [← hN]
    show (nth m _ (off m _ _ n)).j = j
    rw [nth_off, itL_run]; exact e
  obtain ⟨G, g1, g2, g3⟩ := st_least (p := fun c => oAt owner (way m h c) = none) N (by rw [hw]; exact hf)
  refine ⟨G, free_spec m owner _ n _ _ G ?_ (by rw [hN]; exact g1) (fun c hc => ?_) ?_, g2, g3⟩
  · unfold SetTable.turns; omega
  · have q := g3 c hc
    show (oAt owner (way m h c)).isNone = false
    cases z : oAt owner (way m h c) with
    | none => exact absurd z q
    | some _ => rfl
  · show (oAt owner (way m h G)).isNone = true
    rw [g2]; rfl
theorem own_more {m : Nat} (hm : MaskP m) {done : List Int} {owner : Array (Option Nat)} (O : Own m done owner) (hl : done.length ≤ m) (h : Int) :
    ∃ j, SetTable.layClean.free m owner (SetTable.turns m) (SetTable.bits h % (m + 1)) (SetTable.bits h) = some j ∧ Own m (done ++ [h]) (owner.setIfInBounds j (some done.length)) := by
  obtain ⟨ps, p1, p2⟩ := O.ps
  obtain ⟨g, hg, ng⟩ := st_missing ps (m + 1) (by omega)
  have fg : oAt owner g = none := Classical.byContradiction fun z => ng (p2 g (Nat.le_of_lt_succ hg) z)
  obtain ⟨G, a1, a2, a3⟩ := free_at hm owner h (Nat.le_of_lt_succ hg) fg
  have wj := way_in m h G
  refine ⟨way m h G, a1, ?_⟩
  generalize ew : way m h G = j at wj a2
  have here : oAt (owner.setIfInBounds j (some done.length)) j = some done.length := oAt_set_self _ (by rw [O.sz]; omega)
  have keep : ∀ {i : Nat}, oAt owner i ≠ none → oAt (owner.setIfInBounds j (some done.length)) i ≠ none := fun {i} z => by
    by_cases c : i = j
    · rw [c, here]; exact fun q => nomatch q
    · rw [oAt_set_ne _ c]; exact z
  constructor
  · rw [Array.size_setIfInBounds]; exact O.sz
  · intro i k hi e
    by_cases c : i = j
    · rw [c, here] at e
      cases e
      refine ⟨h, G, ?_, ew.trans c.symm, fun c hc => keep (a3 c hc)⟩
      rw [List.getElem?_append_right (Nat.le_refl _), Nat.sub_self]; rfl
    · rw [oAt_set_ne _ c] at e
      obtain ⟨h', G', b1, b2, b3⟩ := O.at_ i k hi e
      exact ⟨h', G', (List.getElem?_append_left (List.getElem?_eq_some_iff.mp b1).1).trans b1, b2, fun c hc => keep (b3 c hc)⟩
  · intro k hk
    rw [List.length_append, List.length_singleton] at hk
    rcases Nat.lt_or_ge k done.length with c | c
    · obtain ⟨i, hi, e⟩ := O.all k c
      exact ⟨i, hi, (oAt_set_ne _ fun z => by rw [z, a2] at e; cases e).trans e⟩
    · rw [show k = done.length by omega]
      exact ⟨j, wj, here⟩
  · refine ⟨j :: ps, by rw [List.length_cons, List.length_append, p1]; rfl, fun i hi e => ?_⟩
    by_cases c : i = j
    · rw [c]; exact List.mem_cons_self
    · rw [oAt_set_ne _ c] at e
      exact List.mem_cons_of_mem _ (p2 i hi e)
theorem own_fold {m : Nat} (hm : MaskP m) : ∀ (rest done : List Int) (owner : Array (Option Nat)), Own m done owner → done.length + rest.length ≤ m →
    ∃ o2, rest.foldl (stepF m) (some (owner, done.length)) = some (o2, (done ++ rest).length) ∧ Own m (done ++ rest) o2
  | [], done, owner, O, _ => ⟨owner, by rw [List.append_nil]; rfl, by rw [List.append_nil]; exact O⟩
  | h :: rest, done, owner, O, hl => by
    rw [List.length_cons] at hl
    obtain ⟨j, e, O'⟩ := own_more hm O (by omega) h
    have l1 : (done ++ [h]).length = done.length + 1 := by rw [List.length_append]; rfl
    have ih := own_fold hm rest (done ++ [h]) _ O' (by omega)
    rw [List.append_assoc, l1] at ih
    obtain ⟨o2, f, O2⟩ := ih
    exact ⟨o2, by rw [List.foldl_cons, stepF_some e]; exact f, O2⟩
theorem lay_anew (t : SetTable) {hs : Array Int} {wanted M : Nat} (hw : SetTable.sizeAbove wanted - 1 = M) (hM : MaskP M) (hn : hs.size ≤ M) :
    ∃ t' order, t.relaid hs wanted = some (t', order) ∧ order.toList.Perm (List.range hs.size) ∧ TabG t' (order.toList.map fun i => hs.getD i 0) ∧ t'.mask = M ∧ t'.led = t.led ∧ t'.plain = t.plain := by
  obtain ⟨owner, f, O⟩ := own_fold hM hs.toList [] _ (Own.init M) (by rw [Array.length_toList]; show 0 + hs.size ≤ M; omega)
  rw [List.nil_append] at O f
  have lay : SetTable.layClean M hs = some owner := by
    rw [layClean_eq]
    exact congrArg (Option.map Prod.fst) f
  have rel : t.relaid hs wanted = some (tabOf t M owner, ((liveOf M owner).map (·.2)).toArray) := by rw [relaid_eq, hw, lay]; rfl
  obtain ⟨r1, r2⟩ := ris_live (fun j => owner.getD j none) (List.range (M + 1)) List.pairwise_lt_range
  have r1 : Ris ((liveOf M owner).map (·.1)) := r1
  have r2 : ∀ x ∈ (liveOf M owner).map (·.1), x ∈ List.range (M + 1) := r2
  have cnt : (liveOf M owner).length = hs.size := by
    obtain ⟨ps, p1, p2⟩ := O.ps
    have a := nat_nodup_len _ ps (List.Pairwise.imp (fun z => Nat.ne_of_lt z) r1) fun x hx => by
      obtain ⟨⟨y, k⟩, hq, rfl⟩ := List.mem_map.mp hx
      obtain ⟨b1, b2⟩ := (mem_live O.sz).1 hq
      exact p2 y b1 (by rw [b2]; exact fun z => nomatch z)
    have b := nat_nodup_len (List.range hs.size) ((liveOf M owner).map (·.2)) List.nodup_range fun k hk => by
      obtain ⟨j, b1, b2⟩ := O.all k (List.mem_range.mp hk)
      exact List.mem_map.mpr ⟨(j, k), (mem_live O.sz).2 ⟨b1, b2⟩, rfl⟩
    rw [List.length_map, p1] at a
    rw [List.length_map, List.length_range] at b
    have : hs.toList.length = hs.size := rfl
    omega
  refine ⟨_, _, rel, perm_range _ _ (by simpa using cnt) fun k hk => ?_, ⟨r1, rfl, ?_, hM, fun x hx => Nat.le_of_lt_succ (List.mem_range.mp (r2 x hx)), fun i h j e1 e2 => ?_⟩, rfl, rfl, rfl⟩
  · obtain ⟨j, b1, b2⟩ := O.all k hk
    exact List.mem_map.mpr ⟨(j, k), (mem_live O.sz).2 ⟨b1, b2⟩, rfl⟩
  · show ((liveOf M owner).map (·.1)).toArray.size = (((liveOf M owner).map (·.2)).map fun i => hs.getD i 0).length
    simp
  · have e1 : (((liveOf M owner).map (·.2)).map fun i => hs.getD i 0)[i]? = some h := e1
    have e2 : ((liveOf M owner).map (·.1))[i]? = some j := e2
    rw [List.map_map, List.getElem?_map] at e1
    rw [List.getElem?_map] at e2
    cases q : (liveOf M owner)[i]? with
    | none => rw [q] at e2; cases e2
    | some z =>
    obtain ⟨y, k⟩ := z
    rw [q] at e1 e2
    cases e2
    obtain ⟨b1, b2⟩ := (mem_live O.sz).1 (List.mem_of_getElem? q)
    obtain ⟨h0, G, a1, a2, a3⟩ := O.at_ _ k b1 b2
    have eh : hs.getD k 0 = h := Option.some.inj e1
    rw [Array.getD_eq_getD_getElem?, ← Array.getElem?_toList, a1] at eh
    cases eh
    refine ⟨G, a2, fun c hc => ?_⟩
    show way M h0 c ∈ (liveOf M owner).map (·.1)
    cases z : oAt owner (way M h0 c) with
    | none => exact absurd z (a3 c hc)
    | some k2 => exact List.mem_map.mpr ⟨(_, k2), (mem_live O.sz).2 ⟨way_in _ _ _, z⟩, rfl⟩
theorem size_go (x : Nat) : ∀ (f n t : Nat), n = 2 ^ t → 3 ≤ t → x < n * 2 ^ f → ∃ u, 3 ≤ u ∧ SetTable.sizeAbove.go x f n = 2 ^ u ∧ x < 2 ^ u ∧ (2 ^ u = n ∨ 2 ^ u ≤ 2 * x)
  | 0, n, t, e, ht, hx => ⟨t, ht, e, by rw [← e]; simpa using hx, .inl e.symm⟩
  | f + 1, n, t, e, ht, hx => by
    show ∃ u, 3 ≤ u ∧ (if n ≤ x then SetTable.sizeAbove.go x f (n * 2) else n) = 2 ^ u ∧ _
    by_cases c : n ≤ x
    · rw [if_pos c]
      obtain ⟨u, h1, h2, h3, h4⟩ := size_go x f (n * 2) (t + 1) (by rw [e, Nat.pow_succ]) (by omega) (by rw [Nat.mul_assoc, ← Nat.pow_succ']; exact hx)
      refine ⟨u, h1, h2, h3, .inr ?_⟩
      rcases h4 with h4 | h4 <;> omega
    · rw [if_neg c]
      exact ⟨t, ht, e, by rw [← e]; omega, .inl e.symm⟩
theorem size_above (x : Nat) (h : x < 2 ^ 60) : ∃ u, 3 ≤ u ∧ SetTable.sizeAbove x = 2 ^ u ∧ x < 2 ^ u ∧ (2 ^ u = 8 ∨ 2 ^ u ≤ 2 * x) := by
  refine size_go x 64 8 3 rfl (Nat.le_refl _) ?_
  have : (2 : Nat) ^ 60 ≤ 8 * 2 ^ 64 := by decide
  omega
end HB
/-! ## HBSet2 -/
/-! sets of tuples of ints of up to 1000 elements: looked up, filled -/
namespace HB
open PySem PySem.Spec PyProof.Rows L2

structure SetG (P : Program) (w : World) (h : Heap) (a : Addr) (L : List (Addr × List Int)) (es : Array (Int × Value)) (ep : Nat) (t : SetTable) : Prop where
  obj : ∃ o, h.get? a = some o ∧ o.ExactSet ∧ o.data = .set es ep t
  rows : es.toList = rowsOf P w L
  tab : TabG t (L.map fun p => thash P w p.2)
  dif : (L.map (·.2)).Nodup
  tups : ∀ p ∈ L, IsT P w h p.2 p.1
  plain : t.plain = true
  led : w.params.followText "set-order" = true ∨ t.led = true
  room : L.length * 5 < t.mask * 3
  cap : t.mask ≤ 4095
section
variable {P : Program} {w : World} {A : Around} {E : Value → Shared → Prop} {s : Shared} {a : Addr} {L : List (Addr × List Int)} {es : Array (Int × Value)} {ep : Nat} {t : SetTable}
theorem SetG.count (R : SetG P w s.heap a L es ep t) : es.size = L.length := by
  have e := congrArg List.length R.rows
  simpa [rowsOf] using e
theorem SetG.fit (R : SetG P w s.heap a L es ep t) : t.fits es.size = true := by
  have e1 := R.tab.many
  have e2 := R.count
  have e3 := R.room
  rw [List.length_map] at e1
  unfold SetTable.fits SetTable.fill
  rw [R.tab.nodum, Bool.and_eq_true, beq_iff_eq, decide_eq_true_eq]
  exact ⟨by omega, by show t.place.size + 0 ≤ t.mask; omega⟩
theorem SetG.row (R : SetG P w s.heap a L es ep t) {i : Nat} {p : Addr × List Int} (h : L[i]? = some p) : es[i]? = some (thash P w p.2, Value.ref p.1) := by
  rw [← Array.getElem?_toList, R.rows, rowsOf, List.getElem?_map, h]; rfl
theorem SetG.whole (R : SetG P w s.heap a L es ep t) : ¬ t.gaveWay = true := by
  unfold SetTable.gaveWay
  rw [maskP_odd R.tab.pw]; decide

/-- the search, from the c-th step of the way on: G is the way's first gap -/
theorem seek (R : SetG P w s.heap a L es ep t) {x : Addr} {k : List Int} (hx : IsT P w s.heap k x) (hu : A.units < cLine) {G : Nat} (hGf : G < 10 * SetTable.turns t.mask) (hG : way t.mask (thash P w k) G ∉ t.place.toList)
    (hGb : ∀ c, c < G → way t.mask (thash P w k) c ∈ t.place.toList) {Q : SetFound → Shared → Prop} (hin : k ∈ L.map (·.2) → Q (.there none) s) (hout : k ∉ L.map (·.2) → Q (.free (way t.mask (thash P w k) G) false) s) :
    ∀ (f c : Nat) (stand : Option SetTable.Probe), stand.getD (t.probeStart (thash P w k)) = nth t.mask (runAt t.mask (SetTable.bits (thash P w k) % (t.mask + 1)) (SetTable.bits (thash P w k))) c → c ≤ G → G - c < f →
      (∀ (i : Nat) p, L[i]? = some p → p.2 = k → ∃ c', c ≤ c' ∧ c' < G ∧ t.place.toList[i]? = some (way t.mask (thash P w k) c')) →
      wpAny (model P w) A (setSearchFrom a (.ref x) (thash P w k) true f stand) Q E s
  | 0, _, _, _, _, hf, _ => absurd hf (Nat.not_lt_zero _)
  | f + 1, c, stand, hst, hc, hf, hre => by
    obtain ⟨o, go, ex, dat⟩ := R.obj
    -- the probes by their number
    generalize hp0 : runAt t.mask (SetTable.bits (thash P w k) % (t.mask + 1)) (SetTable.bits (thash P w k)) = p0 at hst
    have wy : ∀ n, way t.mask (thash P w k) n = (nth t.mask p0 n).j := fun n => by rw [← hp0]
    have nod : ∀ (n : Nat) (p : SetTable.Probe), p.dummy = none → (nth t.mask p n).dummy = none := by
      intro n
      induction n with
      | zero => exact fun p z => z
      | succ n ih => exact fun p z => ih _ (by unfold adv; split <;> exact z)
    have stp : ∀ n, nth t.mask (nth t.mask p0 c) n = nth t.mask p0 (c + n) := fun n => (nth_add t.mask c p0 n).symm
    have hsh : ∀ (i : Nat) p, L[i]? = some p → (es[i]?.map (·.1)).getD 0 = thash P w p.2 := fun i p z => by rw [R.row z]; rfl
    have spec := go_spec t R.tab.up R.tab.nodum (fun i => (es[i]?.map (·.1)).getD 0) (thash P w k) (10 * SetTable.turns t.mask) (G - c) (nth t.mask p0 c) (nod c p0 (by rw [← hp0]; rfl)) (by omega)
      (fun n hn => by rw [stp, ← wy]; exact hGb _ (by omega)) (by rw [stp, ← wy, show c + (G - c) = G by omega]; exact hG)
    rw [← hst] at spec
    rw [setSearchFrom_succ]
    refine wpAny_bind (wpAny_setState_of go dat R.fit ?_); dsimp only
    refine wp_if_neg R.whole ?_
    try refine wpAny_bind (wpAny_pure ?_)
    rcases spec with ⟨n, i, hn, hi, hh, hno, hpr⟩ | ⟨hno, hpr⟩
    · rw [show t.probe (fun i => (es[i]?.map (·.1)).getD 0) (thash P w k) (stand.getD (t.probeStart (thash P w k))) = _ from hpr]
      dsimp only
      rw [hst, stp, ← wy] at hi
      rw [hst, stp, ← wy]
      have hil : i < L.length := by
        have z1 := (List.getElem?_eq_some_iff.mp hi).1
        have z2 := R.tab.len
        rw [List.length_map] at z2
        omega
      obtain ⟨p, hp⟩ : ∃ p, L[i]? = some p := ⟨_, List.getElem?_eq_getElem hil⟩
      have hpm := List.mem_of_getElem? hp
      have rest : wpAny (model P w) A (searchRest a (.ref x) (thash P w k) true f es t (way t.mask (thash P w k) (c + n)) i (nth t.mask (nth t.mask p0 c) (n + 1))) Q E s := by
        unfold searchRest
        rw [R.row hp]; dsimp only
        refine wpAny_bind (wpAny_holding (wpAny_eqBool_tuple hu (R.tups p hpm) hx ?_))
        refine wpAny_bind (wpAny_setState_of go dat R.fit ?_); dsimp only
        by_cases same : p.2 = k
        · exact wp_if_pos (by simp [same]) (wpAny_pure (hin (List.mem_map.mpr ⟨p, hpm, same⟩)))
        · refine wp_if_neg (by simp [same]) ?_
          try refine wpAny_bind (wpAny_pure ?_)
          rw [sameMem]; dsimp only
          have live : t.slot (way t.mask (thash P w k) (c + n)) = .live i := slot_live R.tab.up hi
          simp only [if_true, live, R.row hp]
          refine wpAny_bind (wpAny_isSame_ref_self (wpAny_bind (wpAny_pure ?_)))
          simp only [if_true]
          refine wp_if_neg (by simp [same]) ?_
          refine seek R hx hu hGf hG hGb hin hout f (c + (n + 1)) _ (by rw [hp0]; exact stp (n + 1)) (by omega) (by omega) fun i' p' h' k' => ?_
          obtain ⟨c', q1, q2, q3⟩ := hre i' p' h' k'
          refine ⟨c', ?_, q2, q3⟩
          rcases Nat.lt_trichotomy c' (c + n) with z | z | z
          · exfalso
            refine hno (c' - c) i' (by omega) ?_ ((hsh i' p' h').trans (congrArg _ k'))
            rw [hst, stp, ← wy, show c + (c' - c) = c' by omega]; exact q3
          · exfalso
            rw [z] at q3
            have l2 := slot_live R.tab.up q3
            rw [live] at l2
            cases l2
            rw [hp] at h'
            cases h'
            exact same k'
          · omega
      by_cases hl : t.led = true
      · refine wp_if_neg (by simp [hl]) ?_
        try refine wpAny_bind (wpAny_pure ?_)
        rw [← hst] at rest
        rw [← hst]; exact rest
      · refine wp_if_pos (by simp [hl]) ?_
        refine wpAny_bind (seen_tup hx (fun y hy => ?_) (wp_if_neg (by decide) ?_))
        · obtain ⟨e, he, rfl⟩ := List.mem_map.mp hy
          have he2 : e ∈ es.toList := by simpa using (show e ∈ es ∧ e.1 = thash P w k by simpa using he).1
          rw [R.rows] at he2
          obtain ⟨p2, m2, rfl⟩ := List.mem_map.mp he2
          exact ⟨p2.2, p2.1, rfl, R.tups p2 m2⟩
        · try refine wpAny_bind (wpAny_pure ?_)
          rw [← hst] at rest
          rw [← hst]; exact rest
    · rw [show t.probe (fun i => (es[i]?.map (·.1)).getD 0) (thash P w k) (stand.getD (t.probeStart (thash P w k))) = _ from hpr]
      dsimp only
      rw [hst, stp, ← wy, show c + (G - c) = G by omega]
      refine wpAny_pure (hout fun hm => ?_)
      obtain ⟨p', m', e'⟩ := List.mem_map.mp hm
      obtain ⟨i', l', g'⟩ := List.getElem_of_mem m'
      have h' : L[i']? = some p' := by rw [List.getElem?_eq_getElem l', g']
      obtain ⟨c', q1, q2, q3⟩ := hre i' p' h' e'
      refine hno (c' - c) i' (by omega) ?_ ((hsh i' p' h').trans (congrArg _ e'))
      rw [hst, stp, ← wy, show c + (c' - c) = c' by omega]; exact q3
theorem seek0 (R : SetG P w s.heap a L es ep t) {x : Addr} {k : List Int} (hx : IsT P w s.heap k x) (hu : A.units < cLine) {Q : SetFound → Shared → Prop} (hin : k ∈ L.map (·.2) → Q (.there none) s)
    (hout : ∀ G, k ∉ L.map (·.2) → way t.mask (thash P w k) G ∉ t.place.toList → (∀ c, c < G → way t.mask (thash P w k) c ∈ t.place.toList) → Q (.free (way t.mask (thash P w k) G) false) s) :
    wpAny (model P w) A (setSearch a (.ref x) (thash P w k) true) Q E s := by
  have room := R.room
  have cap := R.cap
  obtain ⟨G, g1, g2, g3⟩ := R.tab.gap (by rw [List.length_map]; omega) (thash P w k)
  have far : G < 100000 := by unfold SetTable.turns at g1; omega
  refine seek R hx hu g1 g2 g3 hin (fun z => hout G z g2 g3) 100000 0 none rfl (Nat.zero_le _) (by omega) fun i p hp hk => ?_
  have hi : (L.map fun p => thash P w p.2)[i]? = some (thash P w k) := by rw [List.getElem?_map, hp, ← hk]; rfl
  have hil : i < t.place.toList.length := by rw [R.tab.len]; exact (List.getElem?_eq_some_iff.mp hi).1
  obtain ⟨c, hc, e⟩ := R.tab.ahead g2 hi (List.getElem?_eq_getElem hil)
  exact ⟨c, Nat.zero_le _, hc, by rw [List.getElem?_eq_getElem hil, e]⟩

/-- the table laid anew -/
theorem relay_g {o : Obj} (go : s.heap.get? a = some o) (ex : o.ExactSet) (dat : o.data = .set es ep t) (rows : es.toList = rowsOf P w L) (T : TabG t (L.map fun p => thash P w p.2)) (hfl : L.length ≤ t.mask) (nd : (L.map (·.2)).Nodup)
    (tup : ∀ p ∈ L, IsT P w s.heap p.2 p.1) (pl : t.plain = true) (ld : w.params.followText "set-order" = true ∨ t.led = true) {wanted M : Nat} (hw : SetTable.sizeAbove wanted - 1 = M) (hM : MaskP M) (cap : SetTable.sizeAbove wanted ≤ 4096) (room : L.length * 5 < M * 3) {Q : Unit → Shared → Prop}
    (hQ : ∀ h' L' es' ep' t', Heap.SameBut a s.heap h' → SetG P w h' a L' es' ep' t' → L'.Perm L → Q () { s with heap := h' }) : wpAny (model P w) A (setRelay a wanted) Q E s := by
  have cnt : es.size = L.length := by simpa [rowsOf] using congrArg List.length rows
  have many : t.place.size = L.length := by simpa using T.many
  have fit : t.fits es.size = true := by
    unfold SetTable.fits SetTable.fill
    rw [T.nodum, Bool.and_eq_true, beq_iff_eq, decide_eq_true_eq]
    exact ⟨by omega, by show t.place.size + 0 ≤ t.mask; omega⟩
  obtain ⟨t', order, e, pm, T', em, el, epl⟩ := lay_anew t (hs := es.map (·.1)) hw hM (by rw [Array.size_map, cnt]; omega)
  rw [Array.size_map, cnt] at pm
  obtain ⟨L2, r1, r2, r3⟩ := order_rows L es order rows pm
  rw [← r3] at T'
  have cnt2 : (order.filterMap (es[·]?)).size = es.size := by
    have z := congrArg List.length r1
    rw [Array.length_toList, rowsOf, List.length_map, r2.length_eq] at z
    rw [z, cnt]
  rw [setRelay_eq]
  refine wpAny_bind (wpAny_setState_of go dat fit ?_); dsimp only
  refine wp_if_neg (by rw [sizeLine_eq]; omega) ?_
  try refine wpAny_bind (wpAny_pure ?_)
  rw [e]; dsimp only
  refine wpAny_bind (wp_if_neg (by rw [cnt2]; simp) ?_)
  try refine wpAny_bind (wpAny_pure ?_)
  refine wpAny_pure ?_; dsimp only
  have lenb : L.length ≤ 4096 := by omega
  refine wpAny_storeSet_of go dat ?_ (by rw [cnt2, cnt, sizeLine_eq]; omega)
  have sb : Heap.SameBut a s.heap (s.heap.update a (Obj.putSet (order.filterMap (es[·]?)) t')) := Heap.SameBut.update ..
  refine hQ _ L2 _ (ep + 1) t' sb ⟨⟨_, store_at go dat, ⟨ex.1, ex.2.1, ex.2.2⟩, rfl⟩, r1, T', (r2.map (·.2)).nodup_iff.mpr nd, fun p hp => isT_same (tup p (r2.mem_iff.mp hp)) go dat sb, by rw [epl]; exact pl, by rw [el]; exact ld, ?_, ?_⟩ r2
  · rw [r2.length_eq, em]; exact room
  · rw [em]; omega

/-- adding one -/
theorem add_g (R : SetG P w s.heap a L es ep t) {x : Addr} {k : List Int} (hx : IsT P w s.heap k x) (hu : A.units < cLine) (few : k ∉ L.map (·.2) → L.length + 1 ≤ 1000) {Q : Bool → Shared → Prop}
    (hQ : ∀ b h' L' es' ep' t', Heap.SameBut a s.heap h' → SetG P w h' a L' es' ep' t' → (k ∈ L.map (·.2) → L' = L) → (k ∉ L.map (·.2) → L'.Perm ((x, k) :: L)) → Q b { s with heap := h' }) :
    wpAny (model P w) A (setAddHashed a (.ref x) (thash P w k)) Q E s := by
  obtain ⟨o, go, ex, dat⟩ := R.obj
  have cnt := R.count
  have room := R.room
  have cap := R.cap
  unfold setAddHashed
  refine wpAny_holding ?_
  rw [show (100000 : Nat) = 99999 + 1 from rfl, setAddHashedIn_succ]
  refine wpAny_bind (wpAny_setState_of go dat R.fit ?_); dsimp only
  refine wp_if_neg (by simp [byScan, Value.scannable]) ?_
  try refine wpAny_bind (wpAny_pure ?_)
  refine wpAny_bind (seek0 R hx hu (fun hm => ?_) fun G hm hG hb => ?_)
  · exact wpAny_pure (hQ false s.heap L es ep t (Heap.SameBut.refl a s.heap) R (fun _ => rfl) fun z => absurd hm z)
  · have few := few hm
    dsimp only
    refine wpAny_bind (wpAny_setState_of go dat R.fit ?_); dsimp only
    generalize ej : way t.mask (thash P w k) G = j at hG
    obtain ⟨hp, T1, fl⟩ := R.tab.one ej hG hb
    have sp : (t.put j).2 = SetTable.below t.place j := rfl
    have em : (t.put j).1.mask = t.mask := rfl
    have el : (t.put j).1.led = t.led := rfl
    have epl : (t.put j).1.plain = true := R.plain
    generalize hpt : t.put j = pt at sp em el epl T1 fl ⊢
    obtain ⟨t1, p⟩ := pt
    dsimp only at sp em el epl T1 fl ⊢
    rw [← sp] at hp T1
    first
      | (refine wpAny_bind ?_; refine wp_if_pos epl ?_; refine hashBy_tup hx ?_)
      | refine wp_if_pos epl (wpAny_bind (hashBy_tup hx ?_))
    simp only [if_true]
    have rows1 : (SetTable.insertAt es p (thash P w k, Value.ref x)).toList = rowsOf P w (L.take p ++ (x, k) :: L.drop p) := by rw [SetTable.toList_insertAt, rows_put, R.rows]
    have pm := put_perm L p (x, k)
    have tb : (L.take p ++ (x, k) :: L.drop p).map (fun p => thash P w p.2) = (L.map fun p => thash P w p.2).take p ++ thash P w k :: (L.map fun p => thash P w p.2).drop p := by rw [List.map_append, List.map_cons, List.map_take, List.map_drop]
    rw [← tb] at T1
    rw [List.length_map] at fl
    have dif1 : ((L.take p ++ (x, k) :: L.drop p).map (·.2)).Nodup := (pm.map (·.2)).nodup_iff.mpr (List.nodup_cons.mpr ⟨hm, R.dif⟩)
    have len1 : (L.take p ++ (x, k) :: L.drop p).length = L.length + 1 := pm.length_eq
    generalize L.take p ++ (x, k) :: L.drop p = L1 at rows1 pm T1 dif1 len1
    have cnt1 : (SetTable.insertAt es p (thash P w k, Value.ref x)).size = L.length + 1 := by
      have z := congrArg List.length rows1
      rw [Array.length_toList, rowsOf, List.length_map, len1] at z
      exact z
    generalize SetTable.insertAt es p (thash P w k, Value.ref x) = es1 at rows1 cnt1 ⊢
    refine wpAny_bind (wpAny_storeSet_of go dat ?_ (by rw [cnt1, sizeLine_eq]; omega))
    have sb : Heap.SameBut a s.heap (s.heap.update a (Obj.putSet es1 t1)) := Heap.SameBut.update ..
    have go1 := store_at (es' := es1) (t' := t1) go dat
    generalize s.heap.update a (Obj.putSet es1 t1) = h1 at sb go1 ⊢
    have tups1 : ∀ p ∈ L1, IsT P w h1 p.2 p.1 := fun p hp => by
      rcases List.mem_cons.mp (pm.mem_iff.mp hp) with e | e
      · rw [e]; exact isT_same hx go dat sb
      · exact isT_same (R.tups p e) go dat sb
    have led1 : w.params.followText "set-order" = true ∨ t1.led = true := by rw [el]; exact R.led
    by_cases full : t1.tooFull = true
    · first
        | (refine wpAny_bind ?_; refine wp_if_pos (by simp [full]) ?_)
        | (refine wp_if_pos (by simp [full]) ?_; refine wpAny_bind ?_)
      rw [cnt]
      obtain ⟨u, u1, u2, u3, u4⟩ := size_above (SetTable.grown (L.length + 1)) (by
        unfold SetTable.grown
        rw [if_neg (by omega)]
        have : (4000 : Nat) < 2 ^ 60 := by decide
        omega)
      have gr : SetTable.grown (L.length + 1) = (L.length + 1) * 4 := by
        unfold SetTable.grown
        rw [if_neg (by omega)]
      rw [gr] at u3 u4
      have small : SetTable.sizeAbove (SetTable.grown (L.length + 1)) ≤ 4096 := by
        rw [u2]
        rcases Nat.lt_or_ge 12 u with z | z
        · exfalso
          have : (2 : Nat) ^ 13 ≤ 2 ^ u := Nat.pow_le_pow_right (by decide) z
          have e : (2 : Nat) ^ 13 = 8192 := by decide
          rcases u4 with u4 | u4 <;> omega
        · exact Nat.pow_le_pow_right (by decide) z
      refine relay_g (s := { s with heap := h1 }) go1 ⟨ex.1, ex.2.1, ex.2.2⟩ rfl rows1 T1 (by rw [em, len1]; omega) dif1 tups1 epl led1 rfl ⟨u, by omega, u1⟩ small (by rw [len1, u2]; omega) ?_
      intro h2 L2 es2 ep2 t2 sb2 R2 pm2
      exact wpAny_pure (hQ true h2 L2 es2 ep2 t2 (sb.trans sb2) R2 (fun z => absurd z hm) fun _ => pm2.trans pm)
    · first
        | refine wp_if_neg (by simp [full]) ?_
        | (refine wpAny_bind ?_; refine wp_if_neg (by simp [full]) ?_; refine wpAny_pure ?_)
      refine wpAny_pure (hQ true h1 L1 es1 (ep + 1) t1 sb ⟨⟨_, go1, ⟨ex.1, ex.2.1, ex.2.2⟩, rfl⟩, rows1, T1, dif1, tups1, epl, led1, ?_, by rw [em]; exact cap⟩ (fun z => absurd z hm) fun _ => pm)
      unfold SetTable.tooFull at full
      rw [decide_eq_true_eq, fl] at full
      rw [len1]; omega
end
end HB
/-! ## HBSet3 -/
/-! set(list of tuples), sorted of it, its length -/
namespace HB
open PySem PySem.Spec PyProof.Rows L2
section
variable {P : Program} {w : World} {A : Around} {E : Value → Shared → Prop} {s : Shared}
/-- at most 1000 different keys -/
def Few (ks : List (Addr × List Int)) : Prop := ∀ M : List (List Int), M.Nodup → (∀ x ∈ M, x ∈ ks.map (·.2)) → M.length ≤ 1000
theorem SetG.stay {h h' : Heap} {a : Addr} {L : List (Addr × List Int)} {es : Array (Int × Value)} {ep : Nat} {t : SetTable} (R : SetG P w h a L es ep t) (ka : ∀ o, h.get? a = some o → h'.get? a = some o) (kt : ∀ p ∈ L, IsT P w h' p.2 p.1) : SetG P w h' a L es ep t := by
  obtain ⟨o, go, r⟩ := R.obj
  exact { obj := ⟨o, ka o go, r⟩, rows := R.rows, tab := R.tab, dif := R.dif, tups := kt, plain := R.plain, led := R.led, room := R.room, cap := R.cap }
/-- the empty set -/
abbrev emptySet (w : World) : Obj := { cls := .type "set", dict := none, data := .set #[] 0 (.fresh 0 0 (!w.params.followText "set-order")) }
theorem setG_new {h : Heap} {a : Addr} (go : h.get? a = some (emptySet w)) : SetG P w h a [] #[] 0 (.fresh 0 0 (!w.params.followText "set-order")) := by
  refine ⟨⟨_, go, ⟨rfl, rfl, rfl⟩, rfl⟩, rfl, ⟨List.Pairwise.nil, rfl, rfl, ⟨3, rfl, by decide⟩, (fun x hx => by cases hx), fun i h j hi => by simp at hi⟩, List.nodup_nil, (fun p hp => by cases hp), rfl, ?_, by show 0 * 5 < 7 * 3; decide, by show 7 ≤ 4095; decide⟩
  show _ ∨ (!w.params.followText "set-order") = true
  cases w.params.followText "set-order" <;> simp
/-- the loop of set.update -/
theorem update_g {I : Addr} {fp wr : List Addr} {G : Array GenState → Array GenState → Prop} {n : Nat} {Pv : Nat → Value → Prop} {St : Nat → Shared → Prop} {R : Result → Shared → Prop} (W : WalksS P w A.in1 I fp wr G n Pv St) (S : Addr) (hSf : S ∉ fp) (ks : List (Addr × List Int))
    (hn : n = ks.length) (few : Few ks) (hval : ∀ i v, Pv i v → ∃ p, ks[i]? = some p ∧ v = .ref p.1) (h0 : Heap) (hk : ∀ p ∈ ks, IsT P w h0 p.2 p.1) (hS0 : h0.get? S = none) (hw0 : ∀ b ∈ wr, h0.get? b = none) (hu : A.in1.units < cLine) :
    ∀ (k i : Nat) (s : Shared), n - i = k → i ≤ n → St i s → (∀ b o, h0.get? b = some o → s.heap.get? b = some o) → (∃ L es ep t, SetG P w s.heap S L es ep t ∧ Got ks i L) →
      (∀ s' L es ep t, Moved (S :: wr) G s s' → SetG P w s'.heap S L es ep t → Got ks n L → (∀ b o, h0.get? b = some o → s'.heap.get? b = some o) → R (.ok (.ret .none)) s') →
      codeAny (model P w) A (.builtin "set.update.loop" ⟨[.ref S, .ref I], []⟩) R s := by
  have nw : S ∉ wr := fun z => hSf (W.sub _ z)
  have inc : ∀ b ∈ wr, b ∈ S :: wr := fun b z => List.mem_cons_of_mem _ z
  have still : ∀ {s s' : Shared}, Moved wr G s s' → (∀ b o, h0.get? b = some o → s.heap.get? b = some o) → ∀ b o, h0.get? b = some o → s'.heap.get? b = some o := fun m k b o e => m.heap b o (fun z => by rw [hw0 b z] at e; cases e) (k b o e)
  intro k
  induction k with
  | zero =>
    intro i s hk' hi hst kp ⟨L, es, ep, t, hS, g⟩ done
    obtain rfl : i = n := by omega
    refine codeAny_builtin F.entry_set_update_loop ?_
    rw [Around.under_plainId F.plain_set_update_loop _]
    show wpAny _ A.in1 (pyNext (.ref I) >>= _) _ _ s
    refine wpAny_bind (W.done s _ _ hst fun s' m => ?_)
    show wpAny _ A.in1 (ret Value.none) _ _ s'
    have kp' := still m kp
    exact wpAny_pure (done s' L es ep t (m.mono inc) (hS.stay (fun o e => m.heap S o nw e) fun p hp => isT_keep (hk p (List.mem_of_mem_take (g.sub p hp))) kp') g kp')
  | succ k ih =>
    intro i s hk' hi hst kp ⟨L, es, ep, t, hS, g⟩ done
    have lt : i < n := by omega
    refine codeAny_builtin F.entry_set_update_loop ?_
    rw [Around.under_plainId F.plain_set_update_loop _]
    show wpAny _ A.in1 (pyNext (.ref I) >>= _) _ _ s
    refine wpAny_bind (W.item i s _ _ lt hst fun v s' hP hst' m => ?_)
    obtain ⟨p, hp, rfl⟩ := hval i v hP
    have kp' := still m kp
    have pin := List.mem_of_getElem? hp
    have hS' := hS.stay (h' := s'.heap) (fun o e => m.heap S o nw e) fun q hq => isT_keep (hk q (List.mem_of_mem_take (g.sub q hq))) kp'
    have hx := isT_keep (hk p pin) kp'
    show wpAny _ A.in1 (holding [Value.ref p.1] (setAdd S (.ref p.1)) >>= _) _ _ s'
    refine wpAny_bind (wpAny_holding ?_)
    unfold setAdd
    refine wpAny_holding (wpAny_bind (wpAny_pyHash_tuple hu hx ?_))
    refine add_g (s := { s' with toks := s'.toks + (p.2.length + 1) }) hS' hx hu (fun nm => ?_) fun b h' L' es' ep' t' sb hS2 c1 c2 => ?_
    · have q := few (p.2 :: L.map (·.2)) (List.nodup_cons.mpr ⟨nm, hS.dif⟩) fun z hz => by
        rcases List.mem_cons.mp hz with e | e
        · rw [e]; exact List.mem_map.mpr ⟨p, pin, rfl⟩
        · obtain ⟨q, hq, rfl⟩ := List.mem_map.mp e
          exact List.mem_map.mpr ⟨q, List.mem_of_mem_take (g.sub q hq), rfl⟩
      rwa [List.length_cons, List.length_map] at q
    · have g' : Got ks (i + 1) L' := by
        rcases Classical.em (p.2 ∈ L.map (·.2)) with c | c
        · rw [c1 c]; exact g.same hp c
        · exact g.more hp (c2 c)
      have kp2 : ∀ b o, h0.get? b = some o → h'.get? b = some o := fun b o e => (sb.2 b (fun z => by rw [z, hS0] at e; cases e)).trans (kp' b o e)
      refine wpAny_pure ⟨plainId_quiet F.plain_set_update_loop _, ih (i + 1) _ (by omega) lt (W.frame _ s' _ _ hst' (Nat.le_add_right _ _) fun b hb o e => ?_) kp2 ⟨L', es', ep', t', hS2, g'⟩ fun s2 L2 es2 ep2 t2 m2 hS3 g2 kp3 => ?_⟩
      · exact (sb.2 b fun z : b = S => hSf (z ▸ hb)).trans e
      · refine done s2 L2 es2 ep2 t2 (Moved.trans W.gtrans ((m.mono inc).then_heap (Nat.le_add_right _ _) fun b o hb e => ?_) m2) hS3 g2 kp3
        exact (sb.2 b fun z : b = S => hb (by rw [z]; exact List.mem_cons_self)).trans e
set_option maxHeartbeats 8000000 in
/-- set(xs) -/
theorem call_set_g {l : Addr} {items : Array Value} (ks : List (Addr × List Int)) {Q : Value → Shared → Prop} (hh : A.handled = none) (hl : s.heap.IsList l items) (hit : items.toList = ks.map fun p => Value.ref p.1) (hk : ∀ p ∈ ks, IsT P w s.heap p.2 p.1) (few : Few ks) (hu : A.units + 3 < cLine)
    (h : ∀ (h' : Heap) (tk : Nat) L es ep t, SetG P w h' s.heap.objs.size L es ep t → Got ks ks.length L → (∀ b o, s.heap.get? b = some o → h'.get? b = some o) → Q (.ref s.heap.objs.size) { s with heap := h', toks := tk }) :
    wpAny (model P w) A (call (.type "set") [.ref l]) Q E s := by
  have isz : items.size = ks.length := by simpa using congrArg List.length hit
  obtain ⟨c, tl, hmro⟩ := F.called_set.mro
  have hmade := F.called_set.made
  have hsub := F.called_set.sub
  refine wpAny_call (codeAny_of_tree ?_)
  show wpAny _ _ (callAny (.type "set") _) _ _ _
  refine wpAny_pure ⟨Code.quiet_builtin _ (by decide +kernel), codeAny_builtin F.entry_type_call ?_⟩
  rw [Around.under_plain (weight_type_call_type "set" [.ref l] []) rfl]
  have h1 := F.called_set.notType
  have h2 := F.called_set.canCreate
  have hct := F.typeCall_set_1 (.ref l)
  repeat (any_goals (first | assumption | wp_step))
  refine codeAny_mono (code_set_led1 (.ref l) (E := E) (Q₁ := fun obj s₁ => obj = .ref s.heap.objs.size ∧ s₁ = { s with heap := s.heap.push (emptySet w) }) ⟨rfl, rfl⟩) fun r s₁ hr => ?_
  match r, hr with
  | .error e, hr => exact hr
  | .ok .next, hr => exact hr.elim
  | .ok .brk, hr => exact hr.elim
  | .ok .cont, hr => exact hr.elim
  | .ok (.ret obj), hr =>
    obtain ⟨rfl, rfl⟩ := hr
    have hS : (s.heap.push (emptySet w)).get? s.heap.objs.size = some (emptySet w) := Heap.get?_push_size _ rfl
    have hT : Shared.TypeIs { s with heap := s.heap.push (emptySet w) } (.ref s.heap.objs.size) "set" := ⟨_, hS, rfl⟩
    have hli := F.called_set.init.lookup
    have hbi := F.called_set.init.bind (.ref s.heap.objs.size)
    repeat (any_goals (first | assumption | wp_step))
    refine codeAny_mono (codeAny_call_builtin (R := wants (fun r s₂ => r = .none ∧ ∃ h' tk L es ep t, s₂ = { s with heap := h', toks := tk } ∧ SetG P w h' s.heap.objs.size L es ep t ∧ Got ks ks.length L ∧ (∀ b o, s.heap.get? b = some o → h'.get? b = some o)) E) F.called_set.init.plain F.entry_set_init (check_set_init_1 hT ?_)) fun r₂ s₂ hr₂ => ?_
    · obtain ⟨⟨ocls, odict, odata, oslots⟩, hol, hcl, nl, hdl⟩ := hl
      simp only at hcl hdl
      subst hcl; subst hdl
      have hol' : (s.heap.push (emptySet w)).get? l = some { cls := .type "list", dict := odict, data := .seq items nl, slots := oslots } := Heap.get?_push_of_some _ hol
      have hsls := F.sub_list_set
      have hslf := F.sub_list_frozenset
      have hne : (Value.type "list" == Value.type "dict") = false := by decide
      have hl1 : (s.heap.push (emptySet w)).IsList l items := ⟨_, hol', rfl, nl, rfl⟩
      unfold Builtin.«set.__init__» noKeywords Builtin.Frozenset.updateFrom
      generalize hPI : pyIter = PI
      wp_walk
      subst hPI
      refine wpAny_pyIter_list hl1 ?_
      refine wpAny_bind (wpAny_runValue ?_)
      have lS : l < s.heap.objs.size := Heap.lt_size hol
      have h3 : A.in1.in1.in1.handled = none := by simp [hh]
      have zp : (s.heap.push (emptySet w)).objs.size = s.heap.objs.size + 1 := Heap.size_push ..
      have nI : l ≠ (s.heap.push (emptySet w)).objs.size := by rw [zp]; exact Nat.ne_of_lt (Nat.lt_succ_of_lt lS)
      have nS : s.heap.objs.size ∉ [(s.heap.push (emptySet w)).objs.size, l] := by
        rw [zp]
        simp only [List.mem_cons, List.not_mem_nil, or_false, not_or]
        exact ⟨Nat.ne_of_lt (Nat.lt_succ_self _), Nat.ne_of_gt lS⟩
      have vals : ∀ (i : Nat) (v : Value), items[i]? = some v → ∃ p, ks[i]? = some p ∧ v = .ref p.1 := fun i v hv => by
        rw [← Array.getElem?_toList, hit, List.getElem?_map] at hv
        cases hq : ks[i]? with
        | none => rw [hq] at hv; cases hv
        | some p => rw [hq] at hv; cases hv; exact ⟨p, rfl, rfl⟩
      have gone : ∀ b, s.heap.objs.size ≤ b → s.heap.get? b = none := fun b hb => by
        cases q : s.heap.get? b with
        | none => rfl
        | some o => exact absurd (Nat.lt_of_lt_of_le (Heap.lt_size q) hb) (Nat.lt_irrefl _)
      refine update_g ((Walks.list h3 _ l nI items).toS) s.heap.objs.size nS ks isz few vals s.heap hk (gone _ (Nat.le_refl _)) (fun b hb => gone b (by rw [List.mem_singleton.mp hb, zp]; exact Nat.le_succ _)) hu (items.size - 0) 0 _ (by omega) (Nat.zero_le _)
        ⟨⟨_, Heap.get?_push_size _ rfl, rfl, rfl⟩, (hl1.push _)⟩ (fun b o e => Heap.get?_push_of_some _ (Heap.get?_push_of_some _ e)) ⟨[], #[], 0, _, setG_new (Heap.get?_push_of_some _ hS), Got.zero ks⟩ fun s' L es ep t m hS' g' kp => ?_
      obtain ⟨h', g2, d', tk', os'⟩ := s'
      obtain rfl : g2 = s.gens := m.gens
      obtain rfl : d' = s.drawn := m.drawn
      obtain rfl : os' = s.os := m.os
      show wpAny _ _ _ _ _ _
      refine wpAny_pure ?_
      show wpAny _ _ (ret Value.none) _ _ _
      rw [isz] at g'
      exact wpAny_pure ⟨rfl, h', tk', L, es, ep, t, rfl, hS', g', kp⟩
    · match r₂, hr₂ with
      | .error e, hr₂ => exact hr₂
      | .ok .next, hr₂ => exact hr₂.elim
      | .ok .brk, hr₂ => exact hr₂.elim
      | .ok .cont, hr₂ => exact hr₂.elim
      | .ok (.ret r), hr₂ =>
        obtain ⟨rfl, h', tk, L, es, ep, t, rfl, hS', g', hk'⟩ := hr₂
        repeat (any_goals (first | assumption | wp_step))
        exact h _ _ _ _ _ _ hS' g' hk'
end
end HB
/-! ## HBMath -/
/-! the mathematics: tests, policies, what they lead to -/
namespace HB

abbrev Sta := List Int

inductive Tst where
  | is (f : Nat) (n : Int)
  | no (t : Tst)
  | all (ts : List Tst)
  | any (ts : List Tst)

inductive Pol where
  | test (t : Tst)
  | set (f : Nat) (n : Int)
  | sum (ps : List Pol)
  | seq (ps : List Pol)
  | star (p : Pol)

/-! ### tests -/
mutual
def holds : Tst → Sta → Bool
  | .is f n, s => decide (s.getD f 0 = n)
  | .no t, s => !holds t s
  | .all ts, s => holdsAll ts s
  | .any ts, s => holdsAny ts s
def holdsAll : List Tst → Sta → Bool
  | [], _ => true
  | t :: ts, s => holds t s && holdsAll ts s
def holdsAny : List Tst → Sta → Bool
  | [], _ => false
  | t :: ts, s => holds t s || holdsAny ts s
end
theorem holdsAll_eq (s : Sta) : ∀ ts : List Tst, holdsAll ts s = (ts.map fun t => holds t s).all id
  | [] => rfl
  | t :: ts => by rw [holdsAll, holdsAll_eq s ts]; rfl
theorem holdsAny_eq (s : Sta) : ∀ ts : List Tst, holdsAny ts s = (ts.map fun t => holds t s).any id
  | [] => rfl
  | t :: ts => by rw [holdsAny, holdsAny_eq s ts]; rfl

/-! ### policies -/
inductive Star {α : Type} (R : α → α → Prop) : α → α → Prop where
  | refl (a : α) : Star R a a
  | tail {a b c : α} : Star R a b → R b c → Star R a c
theorem Star.one {α : Type} {R : α → α → Prop} {a b : α} (h : R a b) : Star R a b := .tail (.refl a) h
theorem Star.trans {α : Type} {R : α → α → Prop} {a b c : α} (h : Star R a b) (k : Star R b c) : Star R a c := by
  induction k with
  | refl => exact h
  | tail _ r ih => exact .tail ih r

mutual
def Den : Pol → Sta → Sta → Prop
  | .test t, s, s' => holds t s = true ∧ s' = s
  | .set f n, s, s' => s' = s.set f n
  | .sum ps, s, s' => DenSum ps s s'
  | .seq ps, s, s' => DenSeq ps s s'
  | .star p, s, s' => Star (fun a b => Den p a b) s s'
def DenSum : List Pol → Sta → Sta → Prop
  | [], _, _ => False
  | p :: ps, s, s' => Den p s s' ∨ DenSum ps s s'
def DenSeq : List Pol → Sta → Sta → Prop
  | [], s, s' => s' = s
  | p :: ps, s, s' => ∃ m, Den p s m ∧ DenSeq ps m s'
end
theorem denSum_iff {s s' : Sta} : ∀ {ps : List Pol}, DenSum ps s s' ↔ ∃ p ∈ ps, Den p s s'
  | [] => by simp [DenSum]
  | p :: ps => by rw [DenSum, denSum_iff]; simp
theorem denSeq_snoc {p : Pol} {s' : Sta} : ∀ {ps : List Pol} {s : Sta}, DenSeq (ps ++ [p]) s s' ↔ ∃ m, DenSeq ps s m ∧ Den p m s'
  | [], s => by
    show (∃ m, Den p s m ∧ s' = m) ↔ ∃ m, m = s ∧ Den p m s'
    constructor
    · rintro ⟨m, h, rfl⟩; exact ⟨s, rfl, h⟩
    · rintro ⟨m, rfl, h⟩; exact ⟨s', h, rfl⟩
  | q :: ps, s => by
    show (∃ m, Den q s m ∧ DenSeq (ps ++ [p]) m s') ↔ ∃ m, (∃ k, Den q s k ∧ DenSeq ps k m) ∧ Den p m s'
    constructor
    · rintro ⟨m, h, k⟩
      obtain ⟨j, h1, h2⟩ := denSeq_snoc.mp k
      exact ⟨j, ⟨m, h, h1⟩, h2⟩
    · rintro ⟨m, ⟨k, h, h1⟩, h2⟩
      exact ⟨k, h, denSeq_snoc.mpr ⟨m, h1, h2⟩⟩

/-! ### the numbers that stand in them -/
mutual
def numsT : Tst → List (Nat × Int)
  | .is f n => [(f, n)]
  | .no t => numsT t
  | .all ts => numsTs ts
  | .any ts => numsTs ts
def numsTs : List Tst → List (Nat × Int)
  | [] => []
  | t :: ts => numsT t ++ numsTs ts
end
mutual
def nums : Pol → List (Nat × Int)
  | .test t => numsT t
  | .set f n => [(f, n)]
  | .sum ps => numsL ps
  | .seq ps => numsL ps
  | .star p => nums p
def numsL : List Pol → List (Nat × Int)
  | [] => []
  | p :: ps => nums p ++ numsL ps
end
theorem numsTs_eq : ∀ ts : List Tst, numsTs ts = ts.flatMap numsT
  | [] => rfl
  | t :: ts => by rw [numsTs, numsTs_eq ts]; rfl
theorem numsL_eq : ∀ ps : List Pol, numsL ps = ps.flatMap nums
  | [] => rfl
  | p :: ps => by rw [numsL, numsL_eq ps]; rfl

/-! ### what is well formed, to a depth -/
/-- fields, and numbers that each field can have or not: all within 0 .. 15 -/
def OkN (f : Nat) (n : Int) : Prop := f < 5 ∧ 0 ≤ n ∧ n ≤ 15
inductive OkT : Nat → Tst → Prop where
  | is {d f n} (h : OkN f n) : OkT d (.is f n)
  | no {d t} (h : OkT d t) : OkT (d + 1) (.no t)
  | all {d ts} (l : ts.length ≤ 3) (h : ∀ t ∈ ts, OkT d t) : OkT (d + 1) (.all ts)
  | any {d ts} (l : ts.length ≤ 3) (h : ∀ t ∈ ts, OkT d t) : OkT (d + 1) (.any ts)
  /-- the empty test (true), at any depth -/
  | nil {d} : OkT d (.all [])
inductive OkP : Nat → Pol → Prop where
  | test {d t} (h : OkT 2 t) : OkP d (.test t)
  | set {d f n} (h : OkN f n) : OkP d (.set f n)
  | sum {d ps} (l : ps.length ≤ 3) (h : ∀ p ∈ ps, OkP d p) : OkP (d + 1) (.sum ps)
  | seq {d ps} (l : ps.length ≤ 3) (h : ∀ p ∈ ps, OkP d p) : OkP (d + 1) (.seq ps)
  | star {d p} (h : OkP d p) : OkP (d + 1) (.star p)
theorem OkT.mono : ∀ {d e : Nat} {t : Tst}, OkT d t → d ≤ e → OkT e t := by
  intro d e t h
  induction h generalizing e with
  | is h => intro _; exact .is h
  | nil => intro _; exact .nil
  | no h ih => intro l; cases e with
    | zero => omega
    | succ e => exact .no (ih (by omega))
  | all l h ih => intro l'; cases e with
    | zero => omega
    | succ e => exact .all l fun t ht => ih t ht (by omega)
  | any l h ih => intro l'; cases e with
    | zero => omega
    | succ e => exact .any l fun t ht => ih t ht (by omega)
theorem OkP.mono : ∀ {d e : Nat} {p : Pol}, OkP d p → d ≤ e → OkP e p := by
  intro d e p h
  induction h generalizing e with
  | test h => intro _; exact .test h
  | set h => intro _; exact .set h
  | sum l h ih => intro l'; cases e with
    | zero => omega
    | succ e => exact .sum l fun t ht => ih t ht (by omega)
  | seq l h ih => intro l'; cases e with
    | zero => omega
    | succ e => exact .seq l fun t ht => ih t ht (by omega)
  | star h ih => intro l; cases e with
    | zero => omega
    | succ e => exact .star (ih (by omega))

/-! ### a set of states that is closed -/
/-- the states whose numbers are in the rows -/
def InRows (rows : List (List Int)) (s : Sta) : Prop := s.length = rows.length ∧ ∀ (i : Nat) (r : List Int) (x : Int), rows[i]? = some r → s[i]? = some x → x ∈ r
theorem InRows.set {rows : List (List Int)} {s : Sta} {f : Nat} {n : Int} (h : InRows rows s) (k : ∀ r, rows[f]? = some r → n ∈ r) : InRows rows (s.set f n) := by
  refine ⟨by rw [List.length_set]; exact h.1, fun i r x hr hx => ?_⟩
  by_cases e : f = i
  · subst e
    by_cases l : f < s.length
    · rw [List.getElem?_set_self l] at hx
      cases hx
      exact k r hr
    · rw [List.getElem?_eq_none (by rw [List.length_set]; omega)] at hx
      cases hx
  · rw [List.getElem?_set_ne e] at hx
    exact h.2 i r x hr hx
mutual
theorem den_in {rows : List (List Int)} : ∀ (p : Pol) (s s' : Sta), (∀ q ∈ nums p, ∀ r, rows[q.1]? = some r → q.2 ∈ r) → InRows rows s → Den p s s' → InRows rows s'
  | .test t, s, s', _, h, d => by rw [Den] at d; rw [d.2]; exact h
  | .set f n, s, s', k, h, d => by
    rw [Den] at d
    rw [d]
    exact h.set fun r hr => k (f, n) (by simp [nums]) r hr
  | .sum ps, s, s', k, h, d => denSum_in ps s s' (fun q hq => k q (by rw [nums]; exact hq)) h (by rw [Den] at d; exact d)
  | .seq ps, s, s', k, h, d => denSeq_in ps s s' (fun q hq => k q (by rw [nums]; exact hq)) h (by rw [Den] at d; exact d)
  | .star p, s, s', k, h, d => by
    rw [Den] at d
    have ih := den_in (rows := rows) p
    induction d with
    | refl => exact h
    | tail _ r ih2 => exact ih _ _ (fun q hq => k q (by rw [nums]; exact hq)) ih2 r
theorem denSum_in {rows : List (List Int)} : ∀ (ps : List Pol) (s s' : Sta), (∀ q ∈ numsL ps, ∀ r, rows[q.1]? = some r → q.2 ∈ r) → InRows rows s → DenSum ps s s' → InRows rows s'
  | [], _, _, _, _, d => by rw [DenSum] at d; exact d.elim
  | p :: ps, s, s', k, h, d => by
    rw [DenSum] at d
    rcases d with d | d
    · exact den_in p s s' (fun q hq => k q (by rw [numsL]; exact List.mem_append_left _ hq)) h d
    · exact denSum_in ps s s' (fun q hq => k q (by rw [numsL]; exact List.mem_append_right _ hq)) h d
theorem denSeq_in {rows : List (List Int)} : ∀ (ps : List Pol) (s s' : Sta), (∀ q ∈ numsL ps, ∀ r, rows[q.1]? = some r → q.2 ∈ r) → InRows rows s → DenSeq ps s s' → InRows rows s'
  | [], _, _, _, h, d => by rw [DenSeq] at d; rw [d]; exact h
  | p :: ps, s, s', k, h, d => by
    rw [DenSeq] at d
    obtain ⟨m, d1, d2⟩ := d
    exact denSeq_in ps m s' (fun q hq => k q (by rw [numsL]; exact List.mem_append_right _ hq)) (den_in p s m (fun q hq => k q (by rw [numsL]; exact List.mem_append_left _ hq)) h d1) d2
end

/-! ### numbers that are not named are alike -/
/-- at each field two numbers change places -/
def swp (a b x : Int) : Int := if x = a then b else if x = b then a else x
theorem swp_swp (a b x : Int) : swp a b (swp a b x) = x := by
  unfold swp
  by_cases h1 : x = a
  · subst h1
    by_cases h2 : b = x
    · simp [h2]
    · simp [h2]
  · by_cases h2 : x = b
    · subst h2; simp [h1]
    · simp [h1, h2]
def turn (ab : Nat → Int × Int) (s : Sta) : Sta := s.mapIdx fun i x => swp (ab i).1 (ab i).2 x
theorem turn_turn (ab : Nat → Int × Int) (s : Sta) : turn ab (turn ab s) = s := by
  unfold turn
  rw [List.mapIdx_mapIdx]
  refine List.ext_getElem? fun i => ?_
  rw [List.getElem?_mapIdx]
  cases s[i]? with
  | none => rfl
  | some x => simp [swp_swp]
theorem turn_set (ab : Nat → Int × Int) (s : Sta) (f : Nat) (n : Int) (h : swp (ab f).1 (ab f).2 n = n) : turn ab (s.set f n) = (turn ab s).set f n := by
  unfold turn
  refine List.ext_getElem? fun i => ?_
  rw [List.getElem?_mapIdx]
  by_cases e : f = i
  · subst e
    by_cases l : f < s.length
    · rw [List.getElem?_set_self l, List.getElem?_set_self (by rw [List.length_mapIdx]; exact l)]
      simp [h]
    · rw [List.getElem?_eq_none (by rw [List.length_set]; omega), List.getElem?_eq_none (by rw [List.length_set, List.length_mapIdx]; omega)]
      rfl
  · rw [List.getElem?_set_ne e, List.getElem?_set_ne e, List.getElem?_mapIdx]
/-- neither of the two is named, at any field -/
def Mute (ab : Nat → Int × Int) (ns : List (Nat × Int)) : Prop := ∀ q ∈ ns, (ab q.1).1 = (ab q.1).2 ∨ (q.2 ≠ (ab q.1).1 ∧ q.2 ≠ (ab q.1).2)
theorem Mute.fix {ab : Nat → Int × Int} {ns : List (Nat × Int)} (h : Mute ab ns) {f : Nat} {n : Int} (k : (f, n) ∈ ns) : swp (ab f).1 (ab f).2 n = n := by
  unfold swp
  rcases h (f, n) k with e | ⟨e1, e2⟩
  · by_cases z : n = (ab f).1
    · rw [if_pos z]; rw [z]; exact e.symm
    · rw [if_neg z, if_neg (fun q => z (q.trans e.symm))]
  · rw [if_neg e1, if_neg e2]
theorem swp_inj {a b x y : Int} (h : swp a b x = swp a b y) : x = y := by
  have := congrArg (swp a b) h
  rwa [swp_swp, swp_swp] at this
mutual
theorem holds_turn {ab : Nat → Int × Int} : ∀ (t : Tst) (s : Sta), s.length = 5 → (∀ q ∈ numsT t, q.1 < 5) → Mute ab (numsT t) → holds t (turn ab s) = holds t s
  | .is f n, s, hl, h5, m => by
    have hf : f < s.length := by have := h5 (f, n) (by simp [numsT]); rw [hl]; exact this
    have fx := m.fix (f := f) (n := n) (by simp [numsT])
    rw [holds, holds]
    have e : (turn ab s).getD f 0 = swp (ab f).1 (ab f).2 (s.getD f 0) := by
      unfold turn
      rw [List.getD_eq_getElem?_getD, List.getD_eq_getElem?_getD, List.getElem?_mapIdx, List.getElem?_eq_getElem hf]
      rfl
    rw [e]
    by_cases q : s.getD f 0 = n
    · rw [q, fx]
    · rw [decide_eq_false q, decide_eq_false]
      intro z
      exact q (swp_inj (z.trans fx.symm))
  | .no t, s, hl, h5, m => by rw [holds, holds, holds_turn t s hl h5 m]
  | .all ts, s, hl, h5, m => by rw [holds, holds]; exact holdsAll_turn ts s hl h5 m
  | .any ts, s, hl, h5, m => by rw [holds, holds]; exact holdsAny_turn ts s hl h5 m
theorem holdsAll_turn {ab : Nat → Int × Int} : ∀ (ts : List Tst) (s : Sta), s.length = 5 → (∀ q ∈ numsTs ts, q.1 < 5) → Mute ab (numsTs ts) → holdsAll ts (turn ab s) = holdsAll ts s
  | [], _, _, _, _ => rfl
  | t :: ts, s, hl, h5, m => by
    rw [holdsAll, holdsAll, holds_turn t s hl (fun q hq => h5 q (by rw [numsTs]; exact List.mem_append_left _ hq)) fun q hq => m q (by rw [numsTs]; exact List.mem_append_left _ hq),
      holdsAll_turn ts s hl (fun q hq => h5 q (by rw [numsTs]; exact List.mem_append_right _ hq)) fun q hq => m q (by rw [numsTs]; exact List.mem_append_right _ hq)]
theorem holdsAny_turn {ab : Nat → Int × Int} : ∀ (ts : List Tst) (s : Sta), s.length = 5 → (∀ q ∈ numsTs ts, q.1 < 5) → Mute ab (numsTs ts) → holdsAny ts (turn ab s) = holdsAny ts s
  | [], _, _, _, _ => rfl
  | t :: ts, s, hl, h5, m => by
    rw [holdsAny, holdsAny, holds_turn t s hl (fun q hq => h5 q (by rw [numsTs]; exact List.mem_append_left _ hq)) fun q hq => m q (by rw [numsTs]; exact List.mem_append_left _ hq),
      holdsAny_turn ts s hl (fun q hq => h5 q (by rw [numsTs]; exact List.mem_append_right _ hq)) fun q hq => m q (by rw [numsTs]; exact List.mem_append_right _ hq)]
end
mutual
theorem den_len : ∀ (p : Pol) (s s' : Sta), Den p s s' → s'.length = s.length
  | .test t, s, s', d => by rw [Den] at d; rw [d.2]
  | .set f n, s, s', d => by rw [Den] at d; rw [d, List.length_set]
  | .sum ps, s, s', d => denSum_len ps s s' (by rw [Den] at d; exact d)
  | .seq ps, s, s', d => denSeq_len ps s s' (by rw [Den] at d; exact d)
  | .star p, s, s', d => by
    rw [Den] at d
    have ih := den_len p
    induction d with
    | refl => rfl
    | tail _ r ih2 => rw [ih _ _ r, ih2]
theorem denSum_len : ∀ (ps : List Pol) (s s' : Sta), DenSum ps s s' → s'.length = s.length
  | [], _, _, d => by rw [DenSum] at d; exact d.elim
  | p :: ps, s, s', d => by
    rw [DenSum] at d
    exact d.elim (den_len p s s') (denSum_len ps s s')
theorem denSeq_len : ∀ (ps : List Pol) (s s' : Sta), DenSeq ps s s' → s'.length = s.length
  | [], _, _, d => by rw [DenSeq] at d; rw [d]
  | p :: ps, s, s', d => by
    rw [DenSeq] at d
    obtain ⟨m, d1, d2⟩ := d
    rw [denSeq_len ps m s' d2, den_len p s m d1]
end
mutual
theorem den_turn {ab : Nat → Int × Int} : ∀ (p : Pol) (s s' : Sta), s.length = 5 → (∀ q ∈ nums p, q.1 < 5) → Mute ab (nums p) → Den p s s' → Den p (turn ab s) (turn ab s')
  | .test t, s, s', hl, h5, m, d => by
    rw [Den] at d ⊢
    rw [nums] at h5 m
    rw [holds_turn t s hl h5 m, d.2]
    exact ⟨d.1, rfl⟩
  | .set f n, s, s', hl, h5, m, d => by
    rw [Den] at d ⊢
    rw [d]
    exact turn_set ab s f n (m.fix (by simp [nums]))
  | .sum ps, s, s', hl, h5, m, d => by rw [Den] at d ⊢; rw [nums] at h5 m; exact denSum_turn ps s s' hl h5 m d
  | .seq ps, s, s', hl, h5, m, d => by rw [Den] at d ⊢; rw [nums] at h5 m; exact denSeq_turn ps s s' hl h5 m d
  | .star p, s, s', hl, h5, m, d => by
    rw [Den] at d ⊢
    rw [nums] at h5 m
    have ih := den_turn (ab := ab) p
    have len : s'.length = 5 := by
      induction d with
      | refl => exact hl
      | tail _ r ih2 => rw [den_len p _ _ r, ih2]
    clear len
    induction d with
    | refl => exact .refl _
    | @tail b c h r ih2 =>
      have lb : b.length = 5 := by
        have : ∀ x, Star (fun a b => Den p a b) s x → x.length = 5 := fun x hx => by
          induction hx with
          | refl => exact hl
          | tail _ r ih3 => rw [den_len p _ _ r, ih3]
        exact this b h
      exact .tail ih2 (ih _ _ lb h5 m r)
theorem denSum_turn {ab : Nat → Int × Int} : ∀ (ps : List Pol) (s s' : Sta), s.length = 5 → (∀ q ∈ numsL ps, q.1 < 5) → Mute ab (numsL ps) → DenSum ps s s' → DenSum ps (turn ab s) (turn ab s')
  | [], _, _, _, _, _, d => by rw [DenSum] at d; exact d.elim
  | p :: ps, s, s', hl, h5, m, d => by
    rw [DenSum] at d ⊢
    rw [numsL] at h5 m
    rcases d with d | d
    · exact .inl (den_turn p s s' hl (fun q hq => h5 q (List.mem_append_left _ hq)) (fun q hq => m q (List.mem_append_left _ hq)) d)
    · exact .inr (denSum_turn ps s s' hl (fun q hq => h5 q (List.mem_append_right _ hq)) (fun q hq => m q (List.mem_append_right _ hq)) d)
theorem denSeq_turn {ab : Nat → Int × Int} : ∀ (ps : List Pol) (s s' : Sta), s.length = 5 → (∀ q ∈ numsL ps, q.1 < 5) → Mute ab (numsL ps) → DenSeq ps s s' → DenSeq ps (turn ab s) (turn ab s')
  | [], _, _, _, _, _, d => by rw [DenSeq] at d ⊢; rw [d]
  | p :: ps, s, s', hl, h5, m, d => by
    rw [DenSeq] at d ⊢
    rw [numsL] at h5 m
    obtain ⟨k, d1, d2⟩ := d
    refine ⟨turn ab k, den_turn p s k hl (fun q hq => h5 q (List.mem_append_left _ hq)) (fun q hq => m q (List.mem_append_left _ hq)) d1, ?_⟩
    exact denSeq_turn ps k s' (by rw [den_len p s k d1, hl]) (fun q hq => h5 q (List.mem_append_right _ hq)) (fun q hq => m q (List.mem_append_right _ hq)) d2
end
theorem turn_len (ab : Nat → Int × Int) (s : Sta) : (turn ab s).length = s.length := by unfold turn; rw [List.length_mapIdx]
theorem den_turn_iff {ab : Nat → Int × Int} {p : Pol} {s s' : Sta} (hl : s.length = 5) (h5 : ∀ q ∈ nums p, q.1 < 5) (m : Mute ab (nums p)) : Den p s s' ↔ Den p (turn ab s) (turn ab s') := by
  refine ⟨den_turn p s s' hl h5 m, fun d => ?_⟩
  have e := den_turn p _ _ (by rw [turn_len]; exact hl) h5 m d
  rwa [turn_turn, turn_turn] at e

/-! ### the sample states decide -/
/-- two policies do the same at a state -/
def Alike (p q : Pol) (s : Sta) : Prop := ∀ s', Den p s s' ↔ Den q s s'
/-- a row for a field: what is named there and, if another number of its range is left, one such -/
structure RowOk (ns : List (Nat × Int)) (f : Nat) (lo hi : Int) (row : List Int) : Prop where
  named : ∀ n, (f, n) ∈ ns → n ∈ row
  other : ∀ x, lo ≤ x → x ≤ hi → (f, x) ∉ ns → ∃ o, o ∈ row ∧ (f, o) ∉ ns
theorem alike_all {p q : Pol} {rows : List (List Int)} {lo hi : Nat → Int} (hr : rows.length = 5) (ok : ∀ f r, rows[f]? = some r → RowOk (nums p ++ nums q) f (lo f) (hi f) r)
    (h5 : ∀ z ∈ nums p ++ nums q, z.1 < 5) (h : ∀ s, InRows rows s → Alike p q s) (s : Sta) (hl : s.length = 5) (hs : ∀ f x, s[f]? = some x → lo f ≤ x ∧ x ≤ hi f) : Alike p q s := by
  have pick : ∀ f : Nat, ∃ ab : Int × Int, (ab.1 = ab.2 ∨ ((f, ab.1) ∉ nums p ++ nums q ∧ (f, ab.2) ∉ nums p ++ nums q)) ∧ ∀ r x, rows[f]? = some r → s[f]? = some x → swp ab.1 ab.2 x ∈ r := by
    intro f
    by_cases hf : f < 5
    · have hx : s[f]? = some (s[f]'(by omega)) := List.getElem?_eq_getElem (by omega)
      have hrw : rows[f]? = some (rows[f]'(by omega)) := List.getElem?_eq_getElem (by omega)
      generalize s[f]'(by omega) = x at hx
      generalize rows[f]'(by omega) = r at hrw
      by_cases hn : (f, x) ∈ nums p ++ nums q
      · refine ⟨(0, 0), .inl rfl, fun r' x' e1 e2 => ?_⟩
        rw [hx] at e2; rw [hrw] at e1; cases e1; cases e2
        have : swp 0 0 x = x := by unfold swp; by_cases z : x = 0 <;> simp [z]
        rw [this]
        exact (ok f r hrw).named x hn
      · obtain ⟨o, ho, no⟩ := (ok f r hrw).other x (hs f x hx).1 (hs f x hx).2 hn
        refine ⟨(x, o), .inr ⟨hn, no⟩, fun r' x' e1 e2 => ?_⟩
        rw [hx] at e2; rw [hrw] at e1; cases e1; cases e2
        unfold swp
        rw [if_pos rfl]
        exact ho
    · refine ⟨(0, 0), .inl rfl, fun r x e1 e2 => ?_⟩
      rw [List.getElem?_eq_none (by omega)] at e2
      cases e2
  let ab : Nat → Int × Int := fun f => Classical.choose (pick f)
  have hab : ∀ f, ((ab f).1 = (ab f).2 ∨ ((f, (ab f).1) ∉ nums p ++ nums q ∧ (f, (ab f).2) ∉ nums p ++ nums q)) ∧ ∀ r x, rows[f]? = some r → s[f]? = some x → swp (ab f).1 (ab f).2 x ∈ r := fun f => Classical.choose_spec (pick f)
  have mu : Mute ab (nums p ++ nums q) := fun z hz => by
    rcases (hab z.1).1 with e | ⟨e1, e2⟩
    · exact .inl e
    · refine .inr ⟨fun e => e1 ?_, fun e => e2 ?_⟩
      · rw [← e]; exact hz
      · rw [← e]; exact hz
  have inr : InRows rows (turn ab s) := by
    refine ⟨by rw [turn_len, hl, hr], fun i r x e1 e2 => ?_⟩
    unfold turn at e2
    rw [List.getElem?_mapIdx] at e2
    cases e3 : s[i]? with
    | none => rw [e3] at e2; cases e2
    | some y =>
      rw [e3] at e2
      cases e2
      exact (hab i).2 r y e1 e3
  intro s'
  rw [den_turn_iff (p := p) (ab := ab) hl (fun z hz => h5 z (List.mem_append_left _ hz)) fun z hz => mu z (List.mem_append_left _ hz),
    den_turn_iff (p := q) (ab := ab) hl (fun z hz => h5 z (List.mem_append_right _ hz)) fun z hz => mu z (List.mem_append_right _ hz)]
  exact h _ inr _
end HB
/-! ## HBBase -/
/-! values as data, in a heap part of which may change -/
namespace HB
open PySem PySem.Spec PyProof.Rows L2

/-! ### data stays while its objects stay -/
section
variable {K : PySem.W.Frag} {H H' : Hp}
theorem same_t (e : Same H H') {a : Addr} {xs : List V} (h : SqT K H a xs) : SqT K H' a xs := Evl.ex_t e h
mutual
theorem dp_same (e : Same H H') : ∀ {v : V} {d : PyData}, Dp K H v d → Dp K H' v d
  | _, _, .non => .non
  | _, _, .bl b => .bl b
  | _, _, .int i => .int i
  | _, _, .str x => .str x
  | _, _, .lst h k => .lst (e.seq h) (dps_same e k)
  | _, _, .tup h k => .tup (same_t e h) (dps_same e k)
theorem dps_same (e : Same H H') : ∀ {vs : List V} {ds : List PyData}, DpAll K H vs ds → DpAll K H' vs ds
  | _, _, .nil => .nil
  | _, _, .cons h k => .cons (dp_same e h) (dps_same e k)
end
theorem dps_len : ∀ {vs : List V} {ds : List PyData}, DpAll K H vs ds → vs.length = ds.length
  | _, _, .nil => rfl
  | _, _, .cons _ k => by rw [List.length_cons, List.length_cons, dps_len k]
theorem dps_at : ∀ {vs : List V} {ds : List PyData} {i : Nat} {d : PyData}, DpAll K H vs ds → ds[i]? = some d → ∃ v, vs[i]? = some v ∧ Dp K H v d
  | _, _, _, _, .nil, e => by simp at e
  | _, _, 0, _, .cons h _, e => by simp at e; subst e; exact ⟨_, rfl, h⟩
  | _, _, i + 1, _, .cons _ k, e => by
    obtain ⟨v, h1, h2⟩ := dps_at (i := i) k (by simpa using e)
    exact ⟨v, by simpa using h1, h2⟩
theorem dps_at' : ∀ {vs : List V} {ds : List PyData} {i : Nat} {v : V}, DpAll K H vs ds → vs[i]? = some v → ∃ d, ds[i]? = some d ∧ Dp K H v d
  | _, _, _, _, .nil, e => by simp at e
  | _, _, 0, _, .cons h _, e => by simp at e; subst e; exact ⟨_, rfl, h⟩
  | _, _, i + 1, _, .cons _ k, e => by
    obtain ⟨v, h1, h2⟩ := dps_at' (i := i) k (by simpa using e)
    exact ⟨v, by simpa using h1, h2⟩
theorem dps_app : ∀ {vs us : List V} {ds es : List PyData}, DpAll K H vs ds → DpAll K H us es → DpAll K H (vs ++ us) (ds ++ es)
  | _, _, _, _, .nil, k => k
  | _, _, _, _, .cons h t, k => .cons h (dps_app t k)
theorem dps_ints : ∀ ns : List Int, DpAll K H (ns.map V.int) (ns.map PyData.int)
  | [] => .nil
  | n :: ns => .cons (.int n) (dps_ints ns)
theorem dps_intsInv : ∀ {ns : List Int} {vs : List V}, DpAll K H vs (ns.map PyData.int) → vs = ns.map V.int
  | [], _, h => by cases h; rfl
  | n :: ns, _, h => by
    cases h with
    | cons h k => cases h; rw [dps_intsInv k]; rfl
theorem dps_blsInv : ∀ {ns : List Bool} {vs : List V}, DpAll K H vs (ns.map PyData.bool) → vs = ns.map V.bl
  | [], _, h => by cases h; rfl
  | n :: ns, _, h => by
    cases h with
    | cons h k => cases h; rw [dps_blsInv k]; rfl
theorem dps_take : ∀ {vs : List V} {ds : List PyData} (n : Nat), DpAll K H vs ds → DpAll K H (vs.take n) (ds.take n)
  | _, _, 0, _ => .nil
  | _, _, _ + 1, .nil => .nil
  | _, _, n + 1, .cons h k => .cons h (dps_take n k)
theorem dps_drop : ∀ {vs : List V} {ds : List PyData} (n : Nat), DpAll K H vs ds → DpAll K H (vs.drop n) (ds.drop n)
  | _, _, 0, h => h
  | _, _, _ + 1, .nil => .nil
  | _, _, n + 1, .cons _ k => dps_drop n k
theorem dps_rev : ∀ {vs : List V} {ds : List PyData}, DpAll K H vs ds → DpAll K H vs.reverse ds.reverse
  | _, _, .nil => .nil
  | _, _, .cons h k => by rw [List.reverse_cons, List.reverse_cons]; exact dps_app (dps_rev k) (.cons h .nil)
end

/-! ### the part that may change -/
def off (M : Addr → Bool) (H : Hp) : Hp := fun a => if M a = true then none else H a
section
variable {M : Addr → Bool} {H H' : Hp} {a b p : Addr} {o : HO}
theorem off_some (h : off M H b = some o) : M b = false ∧ H b = some o := by
  unfold off at h
  by_cases e : M b = true
  · rw [if_pos e] at h; cases h
  · rw [if_neg e] at h; exact ⟨by simpa using e, h⟩
theorem off_of (e : M b = false) (h : H b = some o) : off M H b = some o := by
  unfold off
  rw [if_neg (by rw [e]; exact Bool.false_ne_true)]
  exact h
theorem off_same (e : Same H H') : Same (off M H) (off M H') := fun b o h => off_of (off_some h).1 (e b o (off_some h).2)
theorem off_sub : Same (off M H) H := fun _ _ h => (off_some h).2
theorem off_upd (h : M a = true) : off M (upd H a o) = off M H := by
  funext b
  unfold off
  by_cases e : M b = true
  · rw [if_pos e, if_pos e]
  · rw [if_neg e, if_neg e, upd_ne (fun z => e (by rw [z]; exact h))]
theorem off_more {M' : Addr → Bool} (h : ∀ b, M b = true → M' b = true) : Same (off M' H) (off M H) := fun b o e => by
  obtain ⟨e1, e2⟩ := off_some e
  refine off_of ?_ e2
  cases q : M b with
  | false => rfl
  | true => rw [h b q] at e1; cases e1
end

/-- a view: which addresses may change, what is known of them -/
structure Vw where
  M : Addr → Bool
  ok : Hp → Prop
  up : ∀ H H', ok H → Same H H' → ok H'
  wd : ∀ H a, ok H → M a = true → H a ≠ none
  wr : ∀ H1 H2 D o, ok H1 → H1 D = none → ok H2 → ok (upd H2 D o)
def Vw.R (W : Vw) (H H' : Hp) : Prop := Same (off W.M H) (off W.M H') ∧ W.ok H'
/-- data, away from what may change -/
abbrev Vw.D (W : Vw) (K : PySem.W.Frag) (H : Hp) (v : V) (d : PyData) : Prop := Dp K (off W.M H) v d
abbrev Vw.Ds (W : Vw) (K : PySem.W.Frag) (H : Hp) (vs : List V) (ds : List PyData) : Prop := DpAll K (off W.M H) vs ds
section
variable {W : Vw} {K : PySem.W.Frag} {H H1 H2 H3 : Hp} {v : V} {d : PyData} {vs : List V} {ds : List PyData} {p : Addr} {o : HO}
theorem Vw.refl (h : W.ok H) : W.R H H := ⟨Same.refl _, h⟩
theorem rtrans (a : W.R H1 H2) (b : W.R H2 H3) : W.R H1 H3 := ⟨a.1.trans b.1, b.2⟩
theorem Vw.of_same (h : W.ok H) (e : Same H H1) : W.R H H1 := ⟨off_same e, W.up _ _ h e⟩
theorem dmono (a : W.R H H1) (h : W.D K H v d) : W.D K H1 v d := dp_same a.1 h
theorem dsmono (a : W.R H H1) (h : W.Ds K H vs ds) : W.Ds K H1 vs ds := dps_same a.1 h
theorem Vw.out (h : W.D K H v d) : Dp K H v d := dp_same off_sub h
theorem Vw.outs (h : W.Ds K H vs ds) : DpAll K H vs ds := dps_same off_sub h
theorem same_new (h : H p = none) : Same H (upd H p o) := Evl.Ex.new h
theorem Vw.fresh (h : W.ok H) (e : H p = none) : W.M p = false := by
  cases q : W.M p with
  | false => rfl
  | true => exact absurd e (W.wd H p h q)
theorem Vw.newR (h : W.ok H) (e : H p = none) : W.R H (upd H p o) := Vw.of_same h (same_new e)
theorem Vw.newT (h : W.ok H) (e : H p = none) (k : W.Ds K H vs ds) : W.D K (upd H p (.tup vs)) (.ref p) (.tuple ds) :=
  .tup (SqT.of (off_of (Vw.fresh h e) upd_same)) (dsmono (Vw.newR h e) k)
theorem Vw.newL (h : W.ok H) (e : H p = none) (k : W.Ds K H vs ds) : W.D K (upd H p (.lst vs)) (.ref p) (.list ds) :=
  .lst (SqL.of (off_of (Vw.fresh h e) upd_same)) (dsmono (Vw.newR h e) k)
end

/-- with one more list that may change -/
def Vw.plus (W : Vw) (D : Addr) (xs : List V) : Vw where
  M := fun b => W.M b || b == D
  ok := fun H => W.ok H ∧ H D = some (.lst xs)
  up := fun H H' h e => ⟨W.up H H' h.1 e, e _ _ h.2⟩
  wd := fun H a h e => by
    rcases Bool.or_eq_true _ _ ▸ e with e | e
    · exact W.wd H a h.1 e
    · have : a = D := by simpa using e
      rw [this, h.2]; simp
  wr := fun H1 H2 E o h1 e h2 => ⟨W.wr H1 H2 E o h1.1 e h2.1, by
    rw [upd_ne (ne_of_none h1.2 e)]; exact h2.2⟩
/-- nothing that stands may change but M -/
def Vw.base (B : Hp) (M : Addr → Bool) (wd : ∀ a, M a = true → B a ≠ none) : Vw where
  M := M
  ok := fun H => Same B H
  up := fun _ _ h e => h.trans e
  wd := fun H a h e z => wd a e (h.free z)
  wr := fun H1 H2 D o h1 e h2 => Evl.Ex.mut h2 (h1.free e)
section
variable {W : Vw} {K : PySem.W.Frag} {H H1 H2 H3 : Hp} {v : V} {d : PyData} {vs : List V} {ds : List PyData} {D p : Addr} {xs ys : List V} {o : HO}
theorem plus_M (xs ys : List V) : (W.plus D xs).M = (W.plus D ys).M := rfl
theorem plus_MD : (W.plus D xs).M D = true := by show (W.M D || D == D) = true; simp
theorem plus_sub : Same (off (W.plus D xs).M H) (off W.M H) := off_more fun b h => by show (W.M b || b == D) = true; rw [h]; rfl
/-- what stood before the list was made -/
theorem plus_in (hD : H D = none) (e : Same (off W.M H) (off W.M H1)) : Same (off W.M H) (off (W.plus D xs).M H1) := fun b o h => by
  obtain ⟨h1, h2⟩ := off_some (e b o h)
  refine off_of ?_ h2
  show (W.M b || b == D) = false
  have hb : b ≠ D := fun z => by
    have := (off_some h).2
    rw [z, hD] at this; cases this
  rw [h1]
  simpa using hb
theorem plus_start (h : W.ok H) (hD : H D = none) : (W.plus D []).ok (upd H D (.lst [])) := ⟨W.up _ _ h (same_new hD), upd_same⟩
/-- an item is appended -/
theorem plus_app (h0 : W.ok H) (hD : H D = none) (h : (W.plus D xs).ok H1) : (W.plus D ys).ok (upd H1 D (.lst ys)) := ⟨W.wr _ _ D _ h0 hD h.1, upd_same⟩
end
end HB
/-! ## HBEv -/
/-! what evaluates to which data, in a view -/
namespace HB
open PySem PySem.Spec PyProof.Rows L2

def EvP (W : Vw) (K : PySem.W.Frag) (te : TE) (σ : L2.St) (H : Hp) (F : PyData → Prop) : Prop :=
  ∀ H1, W.R H H1 → ∀ Q : VK, (∀ v H2 d, F d → W.R H1 H2 → W.D K H2 v d → Q v H2) → te σ H1 Q
abbrev EvD (W : Vw) (K : PySem.W.Frag) (te : TE) (σ : L2.St) (H : Hp) (d : PyData) : Prop := EvP W K te σ H (fun e => e = d)
def EvA (W : Vw) (K : PySem.W.Frag) (ta : TA) (σ : L2.St) (H : Hp) (F : List PyData → Prop) : Prop :=
  ∀ H1, W.R H H1 → ∀ Q : List V → Hp → Prop, (∀ vs H2 ds, F ds → W.R H1 H2 → W.Ds K H2 vs ds → Q vs H2) → ta σ H1 Q
def EvT (W : Vw) (tt : TT) (σ : L2.St) (H : Hp) (F : Bool → Prop) : Prop :=
  ∀ H1, W.R H H1 → ∀ Q : Bool → Hp → Prop, (∀ b H2, F b → W.R H1 H2 → Q b H2) → tt σ H1 Q
abbrev EvB (W : Vw) (tt : TT) (σ : L2.St) (H : Hp) (b : Bool) : Prop := EvT W tt σ H (fun c => c = b)

section
variable {W : Vw} {K : PySem.W.Frag} {σ : L2.St} {H H' : Hp} {ta tb te tx : TE} {tas : TA} {t u : TT} {v : V} {d e : PyData} {F G : PyData → Prop} {FL GL : List PyData → Prop} {B C : Bool → Prop}
theorem ev_mono (r : W.R H H') (h : EvP W K te σ H F) : EvP W K te σ H' F := fun H1 a Q q => h H1 (rtrans r a) Q q
theorem ea_mono (r : W.R H H') (h : EvA W K tas σ H FL) : EvA W K tas σ H' FL := fun H1 a Q q => h H1 (rtrans r a) Q q
theorem et_mono (r : W.R H H') (h : EvT W t σ H B) : EvT W t σ H' B := fun H1 a Q q => h H1 (rtrans r a) Q q
theorem ev_imp (h : EvP W K te σ H F) (k : ∀ d, F d → G d) : EvP W K te σ H G := fun H1 a Q q => h H1 a Q fun v H2 d f => q v H2 d (k d f)
theorem ea_imp (h : EvA W K tas σ H FL) (k : ∀ d, FL d → GL d) : EvA W K tas σ H GL := fun H1 a Q q => h H1 a Q fun v H2 d f => q v H2 d (k d f)
theorem et_imp (h : EvT W t σ H B) (k : ∀ d, B d → C d) : EvT W t σ H C := fun H1 a Q q => h H1 a Q fun b H2 f => q b H2 (k b f)
theorem ev_is (h : EvD W K te σ H d) (k : d = e) : EvD W K te σ H e := k ▸ h
theorem et_is {a b : Bool} (h : EvB W t σ H a) (k : a = b) : EvB W t σ H b := k ▸ h
/-! ### names, constants -/
theorem ev_var {i : Nat} (h : σ[i]? = some (some v)) (k : W.D K H v d) : EvD W K (tVar i) σ H d := fun H1 a Q q => ⟨v, h, q v H1 d rfl (Vw.refl a.2) (dmono a k)⟩
theorem ev_str {x : Str} : EvD W K (tC (.str x)) σ H (.str x) := fun H1 a Q q => q _ H1 _ rfl (Vw.refl a.2) (.str x)
theorem ev_int {i : Int} : EvD W K (tC (.int i)) σ H (.int i) := fun H1 a Q q => q _ H1 _ rfl (Vw.refl a.2) (.int i)
theorem ev_bl {b : Bool} : EvD W K (tC (.bl b)) σ H (.bool b) := fun H1 a Q q => q _ H1 _ rfl (Vw.refl a.2) (.bl b)
theorem ev_non : EvD W K (tC .non) σ H .none := fun H1 a Q q => q _ H1 _ rfl (Vw.refl a.2) .non
theorem ev_c (k : W.D K H v d) : EvD W K (tC v) σ H d := fun H1 a Q q => q v H1 d rfl (Vw.refl a.2) (dmono a k)
/-! ### arguments, displays -/
theorem ea_nil : EvA W K tNil σ H (fun ds => ds = []) := fun H1 a Q q => q [] H1 [] rfl (Vw.refl a.2) .nil
theorem ea_cons (h : EvP W K ta σ H F) (k : EvA W K tas σ H FL) : EvA W K (tCons ta tas) σ H (fun ds => ∃ d r, ds = d :: r ∧ F d ∧ FL r) := fun H1 a Q q =>
  h H1 a _ fun v H2 d f a2 dv => k H2 (rtrans a a2) _ fun vs H3 ds fl a3 dvs => q (v :: vs) H3 (d :: ds) ⟨d, ds, rfl, f, fl⟩ (rtrans a2 a3) (.cons (dmono a3 dv) dvs)
theorem ea_one (h : EvP W K ta σ H F) : EvA W K (tCons ta tNil) σ H (fun ds => ∃ d, ds = [d] ∧ F d) := ea_imp (ea_cons h ea_nil) fun _ ⟨d, r, e, f, g⟩ => ⟨d, by rw [e, g], f⟩
theorem ea_c {ds : List PyData} (h : EvD W K ta σ H d) (k : EvA W K tas σ H (fun z => z = ds)) : EvA W K (tCons ta tas) σ H (fun z => z = d :: ds) := ea_imp (ea_cons h k) fun _ ⟨_, _, e, f, g⟩ => by rw [e, f, g]
theorem ev_tup (h : EvA W K tas σ H FL) (z : ∀ ds, FL ds → ds.length ≤ 1000) : EvP W K (tTup tas) σ H (fun d => ∃ ds, d = .tuple ds ∧ FL ds) := fun H1 a Q q =>
  h H1 a _ fun vs H2 ds f a2 dvs => ⟨by rw [dps_len dvs]; exact Nat.le_of_lt (small1000 (z ds f)), fun p hp => q (.ref p) _ (.tuple ds) ⟨ds, rfl, f⟩ (rtrans a2 (Vw.newR a2.2 hp)) (Vw.newT a2.2 hp dvs)⟩
theorem ev_lst (h : EvA W K tas σ H FL) (z : ∀ ds, FL ds → ds.length ≤ 1000) : EvP W K (tLst tas) σ H (fun d => ∃ ds, d = .list ds ∧ FL ds) := fun H1 a Q q =>
  h H1 a _ fun vs H2 ds f a2 dvs => ⟨by rw [dps_len dvs]; exact Nat.le_of_lt (small1000 (z ds f)), fun p hp => q (.ref p) _ (.list ds) ⟨ds, rfl, f⟩ (rtrans a2 (Vw.newR a2.2 hp)) (Vw.newL a2.2 hp dvs)⟩
theorem ev_tupD {ds : List PyData} (h : EvA W K tas σ H (fun z => z = ds)) (z : ds.length ≤ 1000) : EvD W K (tTup tas) σ H (.tuple ds) := ev_imp (ev_tup h fun _ e => by rw [e]; exact z) fun _ ⟨_, e, f⟩ => by rw [e, f]
theorem ev_lstD {ds : List PyData} (h : EvA W K tas σ H (fun z => z = ds)) (z : ds.length ≤ 1000) : EvD W K (tLst tas) σ H (.list ds) := ev_imp (ev_lst h fun _ e => by rw [e]; exact z) fun _ ⟨_, e, f⟩ => by rw [e, f]
/-! ### what data is, seen from the value -/
theorem d_int {i : Int} (h : Dp K H v (.int i)) : v = .int i := by cases h; rfl
theorem d_str {i : Str} (h : Dp K H v (.str i)) : v = .str i := by cases h; rfl
theorem d_bl {i : Bool} (h : Dp K H v (.bool i)) : v = .bl i := by cases h; rfl
theorem d_non (h : Dp K H v .none) : v = .non := by cases h; rfl
theorem d_tup {ds : List PyData} (h : Dp K H v (.tuple ds)) : ∃ a xs, v = .ref a ∧ SqT K H a xs ∧ DpAll K H xs ds := by cases h with | tup a b => exact ⟨_, _, rfl, a, b⟩
theorem d_lst {ds : List PyData} (h : Dp K H v (.list ds)) : ∃ a xs, v = .ref a ∧ SqL K H a xs ∧ DpAll K H xs ds := by cases h with | lst a b => exact ⟨_, _, rfl, a, b⟩
/-! ### two-place operations -/
theorem ev_op {r : R2} {F1 F2 : PyData → Prop} (ha : EvP W K ta σ H F1) (hb : EvP W K tb σ H F2)
    (hr : ∀ x y d1 d2 H1, F1 d1 → F2 d2 → W.R H H1 → W.D K H1 x d1 → W.D K H1 y d2 → ∀ Q : VK, (∀ v H2 d, G d → W.R H1 H2 → W.D K H2 v d → Q v H2) → r x y H1 Q) : EvP W K (tOp r ta tb) σ H G := fun H1 a Q q =>
  ha H1 a _ fun x H2 d1 f1 a2 dx => hb H2 (rtrans a a2) _ fun y H3 d2 f2 a3 dy =>
    hr x y d1 d2 H3 f1 f2 (rtrans a (rtrans a2 a3)) (dmono a3 dx) dy Q fun v H4 d g a4 dv => q v H4 d g (rtrans a2 (rtrans a3 a4)) dv
theorem dps_atI {xs : List V} {ds : List PyData} {i : Int} {d : PyData} (h : DpAll K H xs ds) (e : atI ds i = some d) : ∃ v, atI xs i = some v ∧ Dp K H v d := by
  unfold atI at e ⊢
  rw [dps_len h]
  cases q : ixN ds.length i with
  | none => rw [q] at e; cases e
  | some j => rw [q] at e; exact dps_at h e
theorem ev_ixT {ds : List PyData} {i : Int} (ha : EvD W K ta σ H (.tuple ds)) (hb : EvD W K tb σ H (.int i)) (k : atI ds i = some d) : EvD W K (tOp (rIxT K) ta tb) σ H d :=
  ev_op ha hb fun x y d1 d2 H1 f1 f2 a dx dy Q q => by
    subst f1; subst f2
    obtain ⟨p, xs, rfl, hs, hd⟩ := d_tup dx
    obtain rfl := d_int dy
    obtain ⟨w, e, dw⟩ := dps_atI hd k
    exact ⟨p, xs, i, w, rfl, rfl, same_t off_sub hs, e, q w H1 d rfl (Vw.refl a.2) dw⟩
theorem ev_ixL {ds : List PyData} {i : Int} (ha : EvD W K ta σ H (.list ds)) (hb : EvD W K tb σ H (.int i)) (k : atI ds i = some d) : EvD W K (tOp (rIxL K) ta tb) σ H d :=
  ev_op ha hb fun x y d1 d2 H1 f1 f2 a dx dy Q q => by
    subst f1; subst f2
    obtain ⟨p, xs, rfl, hs, hd⟩ := d_lst dx
    obtain rfl := d_int dy
    obtain ⟨w, e, dw⟩ := dps_atI hd k
    exact ⟨p, xs, i, w, rfl, rfl, off_sub.seq hs, e, q w H1 d rfl (Vw.refl a.2) dw⟩
/-- a written list at some place -/
theorem ev_ixAny {ds : List PyData} {F2 : PyData → Prop} (ha : EvD W K ta σ H (.list ds)) (hb : EvP W K tb σ H F2) (k : ∀ e, F2 e → ∃ i d, e = .int i ∧ atI ds i = some d ∧ G d) : EvP W K (tOp (rIxL K) ta tb) σ H G :=
  ev_op ha hb fun x y d1 d2 H1 f1 f2 a dx dy Q q => by
    subst f1
    obtain ⟨i, d, rfl, e, g⟩ := k d2 f2
    obtain ⟨p, xs, rfl, hs, hd⟩ := d_lst dx
    obtain rfl := d_int dy
    obtain ⟨w, e, dw⟩ := dps_atI hd e
    exact ⟨p, xs, i, w, rfl, rfl, off_sub.seq hs, e, q w H1 d g (Vw.refl a.2) dw⟩
theorem ev_eqS {x y : Str} (ha : EvD W K ta σ H (.str x)) (hb : EvD W K tb σ H (.str y)) : EvD W K (tOp rEq ta tb) σ H (.bool (decide (x = y))) :=
  ev_op ha hb fun u w d1 d2 H1 f1 f2 a dx dy Q q => by
    subst f1; subst f2
    obtain rfl := d_str dx
    obtain rfl := d_str dy
    refine ⟨rfl, ?_⟩
    rw [show decide (V.str x = V.str y) = decide (x = y) by by_cases e : x = y <;> simp [e]]
    exact q _ H1 _ rfl (Vw.refl a.2) (.bl _)
theorem ev_neS {x y : Str} (ha : EvD W K ta σ H (.str x)) (hb : EvD W K tb σ H (.str y)) : EvD W K (tOp rNe ta tb) σ H (.bool (!decide (x = y))) :=
  ev_op ha hb fun u w d1 d2 H1 f1 f2 a dx dy Q q => by
    subst f1; subst f2
    obtain rfl := d_str dx
    obtain rfl := d_str dy
    refine ⟨rfl, ?_⟩
    rw [show decide (V.str x = V.str y) = decide (x = y) by by_cases e : x = y <;> simp [e]]
    exact q _ H1 _ rfl (Vw.refl a.2) (.bl _)
/-- two ints, told by what they are -/
theorem ev_eqI {F1 F2 : PyData → Prop} (ha : EvP W K ta σ H F1) (hb : EvP W K tb σ H F2) (k : ∀ e1 e2, F1 e1 → F2 e2 → ∃ i j, e1 = .int i ∧ e2 = .int j ∧ G (.bool (decide (i = j)))) : EvP W K (tOp rEq ta tb) σ H G :=
  ev_op ha hb fun u w d1 d2 H1 f1 f2 a dx dy Q q => by
    obtain ⟨i, j, rfl, rfl, g⟩ := k d1 d2 f1 f2
    obtain rfl := d_int dx
    obtain rfl := d_int dy
    refine ⟨rfl, ?_⟩
    rw [show decide (V.int i = V.int j) = decide (i = j) by by_cases e : i = j <;> simp [e]]
    exact q _ H1 _ g (Vw.refl a.2) (.bl _)
theorem ev_I0 {F1 F2 : PyData → Prop} {g : Int → Int → V} {gd : Int → Int → PyData} (hg : ∀ i j H, Dp K H (g i j) (gd i j)) (ha : EvP W K ta σ H F1) (hb : EvP W K tb σ H F2) (k : ∀ e1 e2, F1 e1 → F2 e2 → ∃ i j, e1 = .int i ∧ e2 = .int j ∧ G (gd i j)) : EvP W K (tOp (rI0 g) ta tb) σ H G :=
  ev_op ha hb fun u w d1 d2 H1 f1 f2 a dx dy Q q => by
    obtain ⟨i, j, rfl, rfl, g⟩ := k d1 d2 f1 f2
    obtain rfl := d_int dx
    obtain rfl := d_int dy
    exact ⟨i, j, rfl, rfl, q _ H1 _ g (Vw.refl a.2) (hg i j _)⟩
theorem ev_I {F1 F2 : PyData → Prop} {c : Int → Int → Prop} {g : Int → Int → V} {gd : Int → Int → PyData} (hg : ∀ i j H, Dp K H (g i j) (gd i j)) (ha : EvP W K ta σ H F1) (hb : EvP W K tb σ H F2) (k : ∀ e1 e2, F1 e1 → F2 e2 → ∃ i j, e1 = .int i ∧ e2 = .int j ∧ c i j ∧ G (gd i j)) : EvP W K (tOp (rI c g) ta tb) σ H G :=
  ev_op ha hb fun u w d1 d2 H1 f1 f2 a dx dy Q q => by
    obtain ⟨i, j, rfl, rfl, hc, g⟩ := k d1 d2 f1 f2
    obtain rfl := d_int dx
    obtain rfl := d_int dy
    exact ⟨i, j, rfl, rfl, hc, q _ H1 _ g (Vw.refl a.2) (hg i j _)⟩
/-! ### flat items -/
def dV : PyData → V
  | .none => .non
  | .bool b => .bl b
  | .int i => .int i
  | .str x => .str x
  | _ => .non
def flatD : PyData → Bool
  | .none => true
  | .bool _ => true
  | .int _ => true
  | .str _ => true
  | _ => false
theorem flat_val (h : Dp K H v d) (f : flatD d = true) : v = dV d ∧ flatV v = true := by
  cases h <;> first | exact ⟨rfl, rfl⟩ | (exact absurd f Bool.false_ne_true)
theorem flats_val : ∀ {vs : List V} {ds : List PyData}, DpAll K H vs ds → ds.all flatD = true → vs = ds.map dV ∧ vs.all flatV = true
  | _, _, .nil, _ => ⟨rfl, rfl⟩
  | _, _, .cons h k, f => by
    rw [List.all_cons, Bool.and_eq_true] at f
    obtain ⟨e1, e2⟩ := flat_val h f.1
    obtain ⟨e3, e4⟩ := flats_val k f.2
    exact ⟨by rw [List.map_cons, ← e1, ← e3], by rw [List.all_cons, e2, e4]; rfl⟩
theorem ev_in {neg : Bool} {ds : List PyData} (ha : EvD W K ta σ H d) (hb : EvP W K tb σ H (fun e => e = .list ds ∨ e = .tuple ds)) (f : flatD d = true) (fs : ds.all flatD = true) :
    EvD W K (tOp (rIn K neg) ta tb) σ H (.bool (if neg then !inV (dV d) (ds.map dV) else inV (dV d) (ds.map dV))) :=
  ev_op ha hb fun x y d1 d2 H1 f1 f2 a dx dy Q q => by
    subst f1
    obtain ⟨rfl, e2⟩ := flat_val dx f
    have : ∃ p xs, y = .ref p ∧ (SqL K H1 p xs ∨ SqT K H1 p xs) ∧ DpAll K (off W.M H1) xs ds := by
      rcases f2 with e | e
      · subst e
        obtain ⟨p, xs, e, hs, hd⟩ := d_lst dy
        exact ⟨p, xs, e, .inl (off_sub.seq hs), hd⟩
      · subst e
        obtain ⟨p, xs, e, hs, hd⟩ := d_tup dy
        exact ⟨p, xs, e, .inr (same_t off_sub hs), hd⟩
    obtain ⟨p, xs, rfl, hs, hd⟩ := this
    obtain ⟨rfl, e4⟩ := flats_val hd fs
    exact ⟨p, _, rfl, hs, e2, e4, q _ H1 _ rfl (Vw.refl a.2) (.bl _)⟩
/-! ### tests -/
theorem et_test (h : EvP W K te σ H F) (k : ∀ d, F d → ∃ b, d = .bool b ∧ B b) : EvT W (tTest te) σ H B := fun H1 a Q q =>
  h H1 a _ fun v H2 d f a2 dv => by
    obtain ⟨b, rfl, g⟩ := k d f
    obtain rfl := d_bl dv
    exact ⟨b, rfl, q b H2 g a2⟩
theorem et_B (h : EvP W K te σ H F) (k : ∀ d, F d → ∃ b, d = .bool b ∧ B b) : EvT W (tB te) σ H B := fun H1 a Q q =>
  h H1 a _ fun v H2 d f a2 dv => by
    obtain ⟨b, rfl, g⟩ := k d f
    obtain rfl := d_bl dv
    exact ⟨b, rfl, q b H2 g a2⟩
theorem et_testD {b : Bool} (h : EvD W K te σ H (.bool b)) : EvB W (tTest te) σ H b := et_test h fun d e => ⟨b, e, rfl⟩
theorem et_BD {b : Bool} (h : EvD W K te σ H (.bool b)) : EvB W (tB te) σ H b := et_B h fun d e => ⟨b, e, rfl⟩
theorem et_not (h : EvT W t σ H B) : EvT W (tNot t) σ H (fun c => ∃ b, B b ∧ c = !b) := fun H1 a Q q => h H1 a _ fun b H2 f a2 => q (!b) H2 ⟨b, f, rfl⟩ a2
theorem et_notB {b : Bool} (h : EvB W t σ H b) : EvB W (tNot t) σ H (!b) := et_imp (et_not h) fun _ ⟨_, e, f⟩ => by rw [f, e]
theorem et_and (h : EvT W t σ H B) (k : B true → EvT W u σ H C) : EvT W (tAnd t u) σ H (fun c => (c = false ∧ B false) ∨ (B true ∧ C c)) := fun H1 a Q q => h H1 a _ fun b H2 f a2 => by
  cases b with
  | true => exact k f H2 (rtrans a a2) Q fun c H3 g a3 => q c H3 (.inr ⟨f, g⟩) (rtrans a2 a3)
  | false => exact q false H2 (.inl ⟨rfl, f⟩) a2
theorem et_or (h : EvT W t σ H B) (k : B false → EvT W u σ H C) : EvT W (tOr t u) σ H (fun c => (c = true ∧ B true) ∨ (B false ∧ C c)) := fun H1 a Q q => h H1 a _ fun b H2 f a2 => by
  cases b with
  | true => exact q true H2 (.inl ⟨rfl, f⟩) a2
  | false => exact k f H2 (rtrans a a2) Q fun c H3 g a3 => q c H3 (.inr ⟨f, g⟩) (rtrans a2 a3)
theorem et_yes : EvB W tYes σ H true := fun H1 a Q q => q true H1 rfl (Vw.refl a.2)
theorem ev_if (h : EvT W t σ H B) (k1 : B true → EvP W K ta σ H F) (k2 : B false → EvP W K tb σ H F) : EvP W K (tIf t ta tb) σ H F := fun H1 a Q q => h H1 a _ fun b H2 f a2 => by
  cases b with
  | true => exact k1 f H2 (rtrans a a2) Q fun v H3 d g a3 => q v H3 d g (rtrans a2 a3)
  | false => exact k2 f H2 (rtrans a a2) Q fun v H3 d g a3 => q v H3 d g (rtrans a2 a3)
theorem ev_not {b : Bool} (h : EvD W K te σ H (.bool b)) : EvD W K (tNotV te) σ H (.bool (!b)) := fun H1 a Q q => h H1 a _ fun v H2 d f a2 dv => by
  subst f
  obtain rfl := d_bl dv
  exact ⟨b, rfl, q _ H2 _ rfl a2 (.bl _)⟩
/-! ### calls by values -/
theorem ev_cb {r : List V → Hp → VK → Prop} (h : EvA W K tas σ H FL)
    (hr : ∀ vs ds H1, FL ds → W.R H H1 → W.Ds K H1 vs ds → ∀ Q : VK, (∀ v H2 d, G d → W.R H1 H2 → W.D K H2 v d → Q v H2) → r vs H1 Q) : EvP W K (tCB r tas) σ H G := fun H1 a Q q =>
  h H1 a _ fun vs H2 ds f a2 dv => hr vs ds H2 f (rtrans a a2) dv Q fun v H3 d g a3 => q v H3 d g (rtrans a2 a3)
theorem ev_all {bs : List Bool} (h : EvD W K ta σ H (.list (bs.map .bool))) : EvD W K (tCB (rAll K) (tCons ta tNil)) σ H (.bool (bs.all id)) :=
  ev_cb (ea_c h ea_nil) fun vs ds H1 f a dv Q q => by
    subst f
    cases dv with
    | cons h k =>
      cases k
      obtain ⟨p, xs, rfl, hs, hd⟩ := d_lst h
      obtain rfl := dps_blsInv hd
      exact ⟨p, bs, rfl, off_sub.seq hs, q _ H1 _ rfl (Vw.refl a.2) (.bl _)⟩
theorem ev_any {bs : List Bool} (h : EvD W K ta σ H (.list (bs.map .bool))) : EvD W K (tCB (rAny K) (tCons ta tNil)) σ H (.bool (bs.any id)) :=
  ev_cb (ea_c h ea_nil) fun vs ds H1 f a dv Q q => by
    subst f
    cases dv with
    | cons h k =>
      cases k
      obtain ⟨p, xs, rfl, hs, hd⟩ := d_lst h
      obtain rfl := dps_blsInv hd
      exact ⟨p, bs, rfl, off_sub.seq hs, q _ H1 _ rfl (Vw.refl a.2) (.bl _)⟩
/-! ### a def's promise by its data: x tells the arguments; nothing that stands changes -/
def spA {α : Type} (K : PySem.W.Frag) (args : α → List PyData) (pre : α → Prop) (post : α → PyData → Prop) : Sp := fun vs H Q _ =>
  ∃ (M : Addr → Bool) (x : α), (∀ a, M a = true → H a ≠ none) ∧ DpAll K (off M H) vs (args x) ∧ pre x ∧ ∀ v H' d, post x d → Same H H' → Dp K (off M H') v d → Q v H'
theorem ev_call {α : Type} {args : α → List PyData} {pre : α → Prop} {post : α → PyData → Prop} {E : XK} (x : α) (h : EvA W K tas σ H (fun ds => ds = args x)) (hp : pre x) : EvP W K (tCall (spA K args pre post) [] E tas) σ H (post x) := fun H1 a Q q =>
  h H1 a _ fun vs H2 ds f a2 dv => by
    show spA K args pre post (vs ++ []) H2 Q E
    rw [List.append_nil]
    subst f
    exact ⟨W.M, x, fun b => W.wd H2 b a2.2, dv, hp, fun v H3 d g e dd => q v H3 d g (rtrans a2 (Vw.of_same a2.2 e)) dd⟩
/-- the argument told by what it comes to -/
theorem ev_callP {α : Type} {args : α → List PyData} {pre : α → Prop} {post : α → PyData → Prop} {E : XK} (h : EvA W K tas σ H FL) (hp : ∀ ds, FL ds → ∃ x, ds = args x ∧ pre x ∧ ∀ d, post x d → G d) : EvP W K (tCall (spA K args pre post) [] E tas) σ H G := fun H1 a Q q =>
  h H1 a _ fun vs H2 ds f a2 dv => by
    show spA K args pre post (vs ++ []) H2 Q E
    rw [List.append_nil]
    obtain ⟨x, rfl, px, k⟩ := hp ds f
    exact ⟨W.M, x, fun b => W.wd H2 b a2.2, dv, px, fun v H3 d g e dd => q v H3 d (k d g) (rtrans a2 (Vw.of_same a2.2 e)) dd⟩
theorem spA_len {α : Type} {args : α → List PyData} {pre : α → Prop} {post : α → PyData → Prop} {n : Nat} (h : ∀ x, (args x).length = n) : ∀ vs H Q E, spA K args pre post vs H Q E → vs.length = n := fun vs H Q E ⟨M, x, _, hd, _⟩ => by
  rw [dps_len hd, h x]
end

/-! ### statements -/
section
variable {W : Vw} {K : PySem.W.Frag} {σ : L2.St} {H H' : Hp} {te : TE} {t : TT} {F : PyData → Prop} {B : Bool → Prop} {D : Ends} {t1 t2 u : TS} {i : Nat}
theorem st_asg (h : EvP W K te σ H F) (ok : W.ok H) (k : ∀ v d H1, F d → W.R H H1 → W.D K H1 v d → D.nx (σ.set i (some v)) H1) : tAsg te (gName i) D σ H :=
  h H (Vw.refl ok) _ fun v H2 d f a dv => k v d H2 f a dv
theorem sq_asg (h : EvP W K te σ H F) (ok : W.ok H) (k : ∀ v d H1, F d → W.R H H1 → W.D K H1 v d → u D (σ.set i (some v)) H1) : tSeq (tAsg te (gName i)) u D σ H := st_asg (D := { D with nx := u D }) h ok k
theorem st_if (h : EvT W t σ H B) (ok : W.ok H) (k1 : B true → ∀ H1, W.R H H1 → t1 D σ H1) (k2 : B false → ∀ H1, W.R H H1 → t2 D σ H1) : tIfS t t1 t2 D σ H :=
  h H (Vw.refl ok) _ fun b H1 f a => by
    cases b with
    | true => exact k1 f H1 a
    | false => exact k2 f H1 a
theorem sq_if (h : EvT W t σ H B) (ok : W.ok H) (k1 : B true → ∀ H1, W.R H H1 → t1 { D with nx := u D } σ H1) (k2 : B false → ∀ H1, W.R H H1 → t2 { D with nx := u D } σ H1) : tSeq (tIfS t t1 t2) u D σ H := st_if (D := { D with nx := u D }) h ok k1 k2
theorem st_ret (h : EvP W K te σ H F) (ok : W.ok H) (k : ∀ v d H1, F d → W.R H H1 → W.D K H1 v d → D.rt v H1) : tRet te D σ H := h H (Vw.refl ok) _ fun v H2 d f a dv => k v d H2 f a dv
/-- for x in a list that is read -/
theorem st_for {ds : List PyData} {g : TG} {tl : TE} (h : EvD W K tl σ H (.list ds)) (ok : W.ok H)
    (k : ∀ H1, W.R H H1 → ∃ Pv : Nat → L2.St → Hp → Prop, Pv 0 σ H1 ∧ (∀ i σ' H', Pv i σ' H' → Same (off W.M H1) (off W.M H')) ∧
      (∀ i d x σ' H', ds[i]? = some d → Pv i σ' H' → W.D K H' x d → g x σ' H' fun σ2 H2 => t1 { D with nx := Pv (i + 1), ct := Pv (i + 1), bk := D.nx } σ2 H2) ∧ (∀ σ' H', Pv ds.length σ' H' → D.nx σ' H')) : tFor (iList K tl) g t1 D σ H :=
  h H (Vw.refl ok) _ fun v H1 d f a dv => by
    subst f
    obtain ⟨p, xs, rfl, hs, hd⟩ := d_lst dv
    refine ⟨p, rfl, ⟨xs, off_sub.seq hs⟩, ?_⟩
    obtain ⟨Pv, p0, pk, ps, pd⟩ := k H1 a
    refine for_list (K := K) (xs := xs) Pv p0 (fun i σ' H' _ hp => (off_sub (M := W.M)).seq ((pk i σ' H' hp).seq hs)) (fun i x σ' H' hx hp => ?_) fun σ' H' hp => pd σ' H' (by rw [← dps_len hd]; exact hp)
    obtain ⟨d, hd1, hd2⟩ := dps_at' hd hx
    exact ps i d x σ' H' hd1 hp (dp_same (pk i σ' H' hp) hd2)
theorem sq_for {ds : List PyData} {g : TG} {tl : TE} (h : EvD W K tl σ H (.list ds)) (ok : W.ok H)
    (k : ∀ H1, W.R H H1 → ∃ Pv : Nat → L2.St → Hp → Prop, Pv 0 σ H1 ∧ (∀ i σ' H', Pv i σ' H' → Same (off W.M H1) (off W.M H')) ∧
      (∀ i d x σ' H', ds[i]? = some d → Pv i σ' H' → W.D K H' x d → g x σ' H' fun σ2 H2 => t1 { D with nx := Pv (i + 1), ct := Pv (i + 1), bk := u D } σ2 H2) ∧ (∀ σ' H', Pv ds.length σ' H' → u D σ' H')) : tSeq (tFor (iList K tl) g t1) u D σ H :=
  st_for (D := { D with nx := u D }) h ok k
end

/-! ### comprehensions -/
section
variable {W : Vw} {K : PySem.W.Frag} {σ : L2.St} {H : Hp} {te tl : TE} {t : TT} {ds : List PyData} {j : Nat} {vs : List Nat}
/-- one turn's end, one more item -/
def LcP (W : Vw) (K : PySem.W.Frag) (H1 : Hp) (Dl : Addr) (Pi : Nat → List PyData → Prop) (i : Nat) (H' : Hp) : Prop :=
  ∃ out acc, Pi i out ∧ (W.plus Dl acc).ok H' ∧ Same (off W.M H1) (off (W.plus Dl acc).M H') ∧ (W.plus Dl acc).Ds K H' acc out
theorem lcp_end {H1 H' : Hp} {Dl : Addr} {Pi : Nat → List PyData → Prop} {n : Nat} (ok1 : W.ok H1) (hD : H1 Dl = none) (p : LcP W K H1 Dl Pi n H') : ∃ out, Pi n out ∧ W.R H1 H' ∧ W.D K H' (.ref Dl) (.list out) := by
  obtain ⟨out, acc, pi, pok, psm, pds⟩ := p
  exact ⟨out, pi, ⟨psm.trans plus_sub, pok.1⟩, .lst (SqL.of (off_of (Vw.fresh ok1 hD) pok.2)) (dps_same plus_sub pds)⟩
theorem lcp_more {H1 H4 : Hp} {Dl : Addr} {Pi : Nat → List PyData → Prop} {i : Nat} {out : List PyData} {acc : List V} {y : V} {e : PyData} (ok1 : W.ok H1) (hD : H1 Dl = none) (pi : Pi i (out ++ [e])) (pok : (W.plus Dl acc).ok H4)
    (psm : Same (off W.M H1) (off (W.plus Dl acc).M H4)) (pds : (W.plus Dl acc).Ds K H4 acc out) (dy : (W.plus Dl acc).D K H4 y e) : LcP W K H1 Dl Pi i (upd H4 Dl (.lst (acc ++ [y]))) := by
  refine ⟨out ++ [e], acc ++ [y], pi, plus_app ok1 hD pok, ?_, ?_⟩
  · rw [plus_M (acc ++ [y]) acc, off_upd plus_MD]; exact psm
  · show DpAll K (off (W.plus Dl (acc ++ [y])).M _) _ _
    rw [plus_M (acc ++ [y]) acc, off_upd plus_MD]
    exact dps_app pds (.cons dy .nil)
/-- what an element's proof is given: a view with the new list, which stands at Dl -/
structure InC (W : Vw) (H : Hp) (Dl : Addr) (acc : List V) (H' : Hp) : Prop where
  ok : (W.plus Dl acc).ok H'
  sm : Same (off W.M H) (off (W.plus Dl acc).M H')
  nw : ∃ H1, W.ok H1 ∧ H1 Dl = none
theorem ev_lc (hl : EvD W K tl σ H (.list ds)) (hw : ∀ x, wipe ((wipe σ vs).set j (some x)) vs = wipe σ vs) (Pi : Nat → List PyData → Prop) (h0 : Pi 0 []) (hz : ∀ i out, Pi i out → out.length < sizeLine)
    (hs : ∀ i out d, Pi i out → ds[i]? = some d → ∀ Dl acc H' x, InC W H Dl acc H' → (W.plus Dl acc).D K H' x d →
      ∃ B : Bool → Prop, EvT (W.plus Dl acc) t ((wipe σ vs).set j (some x)) H' B ∧ (B true → ∃ F, EvP (W.plus Dl acc) K te ((wipe σ vs).set j (some x)) H' F ∧ ∀ e, F e → Pi (i + 1) (out ++ [e])) ∧ (B false → Pi (i + 1) out)) :
    EvP W K (tLc (iList K tl) (gName j) t te vs) σ H (fun r => ∃ out, r = .list out ∧ Pi ds.length out) := fun H0 a0 Q q => hl H0 a0 _ fun v H1 d f a1 dv => by
  subst f
  obtain ⟨p, xs, rfl, hsq, hd⟩ := d_lst dv
  refine ⟨p, rfl, ⟨xs, off_sub.seq hsq⟩, fun Dl hD => ?_⟩
  have ok1 : W.ok H1 := a1.2
  refine lc_list (K := K) (xs := xs) (LcP W K H1 Dl Pi) ⟨[], [], h0, plus_start ok1 hD, plus_in hD (off_same (same_new hD)), .nil⟩ (fun i H' _ hp => ?_) (fun i x H' hx hp => ⟨hw x, ?_⟩) (fun H' hp => ?_)
  · obtain ⟨out, acc, _, _, psm, _⟩ := hp
    exact (off_sub (M := (W.plus Dl acc).M)).seq (psm.seq hsq)
  · obtain ⟨out, acc, pi, pok, psm, pds⟩ := hp
    obtain ⟨d, hd1, hd2⟩ := dps_at' hd hx
    obtain ⟨B, ht, kt, kf⟩ := hs i out d pi hd1 Dl acc H' x ⟨pok, ((rtrans a0 a1).1).trans psm, H1, ok1, hD⟩ (dp_same psm hd2)
    refine ht H' (Vw.refl pok) _ fun b H3 fb a3 => ?_
    cases b with
    | false => exact ⟨out, acc, kf fb, a3.2, psm.trans a3.1, dsmono a3 pds⟩
    | true =>
      obtain ⟨F, hE, kE⟩ := kt fb
      refine hE H3 a3 _ fun y H4 e fe a4 dy => ?_
      exact ⟨acc, a4.2.2, by rw [dps_len pds]; exact hz i out pi, lcp_more ok1 hD (kE e fe) a4.2 ((psm.trans a3.1).trans a4.1) (dsmono a4 (dsmono a3 pds)) dy⟩
  · rw [dps_len hd] at hp
    obtain ⟨out, pi, r, dl⟩ := lcp_end ok1 hD hp
    exact q _ H' _ ⟨out, rfl, pi⟩ (rtrans a1 r) dl
/-- over range(n), n told by what it is -/
theorem ev_lcR {ta : TA} {FL : List PyData → Prop} (hl : EvA W K ta σ H FL) (hn : ∀ ds, FL ds → ∃ n : Nat, ds = [.int (n : Int)] ∧ n ≤ 1000) (hw : ∀ x, wipe ((wipe σ vs).set j (some x)) vs = wipe σ vs)
    (Pi : Nat → List PyData → Prop) (h0 : Pi 0 []) (hz : ∀ i out, Pi i out → out.length < sizeLine)
    (hs : ∀ i out, Pi i out → i < 1000 → ∀ Dl acc H' x, InC W H Dl acc H' → (W.plus Dl acc).D K H' x (.int i) →
      ∃ B : Bool → Prop, EvT (W.plus Dl acc) t ((wipe σ vs).set j (some x)) H' B ∧ (B true → ∃ F, EvP (W.plus Dl acc) K te ((wipe σ vs).set j (some x)) H' F ∧ ∀ e, F e → Pi (i + 1) (out ++ [e])) ∧ (B false → Pi (i + 1) out)) :
    EvP W K (tLc (iRng1 ta) (gName j) t te vs) σ H (fun r => ∃ out n, r = .list out ∧ FL [.int (n : Nat)] ∧ Pi n out) := fun H0 a0 Q q => hl H0 a0 _ fun vs1 H1 dl f a1 dv => by
  obtain ⟨n, rfl, hn1⟩ := hn dl f
  have e0 : vs1 = [V.int (n : Int)] := by
    cases dv with
    | cons h k => cases k; cases h; rfl
  subst e0
  have ok1 : W.ok H1 := a1.2
  refine ⟨(n : Int), rfl, by omega, by omega, fun Dl hD => ?_⟩
  refine lc_range (lo := 0) (n := ((n : Int)).toNat) (LcP W K H1 Dl Pi) ⟨[], [], h0, plus_start ok1 hD, plus_in hD (off_same (same_new hD)), .nil⟩ (fun i H' hi hp => ⟨hw _, ?_⟩) (fun H' hp => ?_)
  · rw [Int.toNat_natCast] at hi
    obtain ⟨out, acc, pi, pok, psm, pds⟩ := hp
    have ei : (0 : Int) + (i : Int) = (i : Int) := Int.zero_add _
    rw [ei]
    obtain ⟨B, ht, kt, kf⟩ := hs i out pi (by omega) Dl acc H' (.int i) ⟨pok, ((rtrans a0 a1).1).trans psm, H1, ok1, hD⟩ (.int i)
    refine ht H' (Vw.refl pok) _ fun b H3 fb a3 => ?_
    cases b with
    | false => exact ⟨out, acc, kf fb, a3.2, psm.trans a3.1, dsmono a3 pds⟩
    | true =>
      obtain ⟨F, hE, kE⟩ := kt fb
      refine hE H3 a3 _ fun y H4 e fe a4 dy => ?_
      exact ⟨acc, a4.2.2, by rw [dps_len pds]; exact hz i out pi, lcp_more ok1 hD (kE e fe) a4.2 ((psm.trans a3.1).trans a4.1) (dsmono a4 (dsmono a3 pds)) dy⟩
  · rw [Int.toNat_natCast] at hp
    obtain ⟨out, pi, r, dl⟩ := lcp_end ok1 hD hp
    exact q _ H' _ ⟨out, n, rfl, f, pi⟩ (rtrans a1 r) dl
/-- two clauses without tests, over lists -/
theorem ev_lc2 {tl1 : TE} {j1 : Nat} {vs1 : List Nat} (hl : EvD W K tl σ H (.list ds)) (hw : ∀ x, wipe ((wipe σ vs).set j (some x)) vs = wipe σ vs)
    (hw1 : ∀ x y, wipe ((wipe ((wipe σ vs).set j (some x)) vs1).set j1 (some y)) vs1 = wipe ((wipe σ vs).set j (some x)) vs1)
    (Pi : Nat → Nat → List PyData → Prop) (h0 : Pi 0 0 []) (hz : ∀ i k out, Pi i k out → out.length < sizeLine)
    (hs : ∀ i out d, Pi i 0 out → ds[i]? = some d → ∀ Dl acc H' x, InC W H Dl acc H' → (W.plus Dl acc).D K H' x d →
      ∃ ds1, EvD (W.plus Dl acc) K tl1 ((wipe σ vs).set j (some x)) H' (.list ds1) ∧ (∀ out', Pi i ds1.length out' → Pi (i + 1) 0 out') ∧
        ∀ k out' e acc' H'' y, Pi i k out' → ds1[k]? = some e → InC W H Dl acc' H'' → (W.plus Dl acc').D K H'' x d → (W.plus Dl acc').D K H'' y e →
          ∃ F, EvP (W.plus Dl acc') K te ((wipe ((wipe σ vs).set j (some x)) vs1).set j1 (some y)) H'' F ∧ ∀ r, F r → Pi i (k + 1) (out' ++ [r])) :
    EvP W K (tLc2 (iList K tl) (gName j) tYes (iList K tl1) (gName j1) tYes te vs vs1) σ H (fun r => ∃ out, r = .list out ∧ Pi ds.length 0 out) := fun H0 a0 Q q => hl H0 a0 _ fun v H1 d f a1 dv => by
  subst f
  obtain ⟨p, xs, rfl, hsq, hd⟩ := d_lst dv
  refine ⟨p, rfl, ⟨xs, off_sub.seq hsq⟩, fun Dl hD => ?_⟩
  have ok1 : W.ok H1 := a1.2
  have hxl := dps_len hd
  refine ⟨fun i m H' => m = xs.length - i ∧ i ≤ xs.length ∧ LcP W K H1 Dl (fun i => Pi i 0) i H', ⟨xs.length, by simp, Nat.zero_le _, [], [], h0, plus_start ok1 hD, plus_in hD (off_same (same_new hD)), .nil⟩, ?_⟩
  rintro i m H' ⟨rfl, hi, out, acc, pi, pok, psm, pds⟩
  have hq : SqL K H' p xs := (off_sub (M := (W.plus Dl acc).M)).seq (psm.seq hsq)
  by_cases hlt : i < xs.length
  · have hx : xs[i]? = some xs[i] := List.getElem?_eq_getElem hlt
    refine .inr ⟨⟨xs, xs[i], hq, hx⟩, LcP W K H1 Dl (fun i => Pi i 0) (i + 1), fun H'' hp => ⟨xs.length - (i + 1), by omega, rfl, hlt, hp⟩, fun x H2 hy => ?_⟩
    obtain ⟨rfl, hy⟩ := hy
    have hx := hy xs hq
    obtain ⟨d, hd1, hd2⟩ := dps_at' hd hx
    refine ⟨hw x, ?_⟩
    obtain ⟨ds1, he1, hend, hin⟩ := hs i out d pi hd1 Dl acc H2 x ⟨pok, ((rtrans a0 a1).1).trans psm, H1, ok1, hD⟩ (dp_same psm hd2)
    refine he1 H2 (Vw.refl pok) _ fun v1 H4 d1 f1 a4 dv1 => ?_
    subst f1
    obtain ⟨p1, xs1, rfl, hsq1, hd1s⟩ := d_lst dv1
    have hl1 := dps_len hd1s
    refine ⟨p1, rfl, ⟨xs1, off_sub.seq hsq1⟩, ?_⟩
    refine ⟨fun k n H5 => n = xs1.length - k ∧ k ≤ xs1.length ∧ LcP W K H1 Dl (Pi i) k H5 ∧ Same (off (W.plus Dl acc).M H4) (off (W.plus Dl acc).M H5),
      ⟨xs1.length, by simp, Nat.zero_le _, ⟨out, acc, pi, a4.2, psm.trans a4.1, dsmono a4 pds⟩, Same.refl _⟩, ?_⟩
    rintro k n H5 ⟨rfl, hk, ⟨out', acc', pi', pok', psm', pds'⟩, hsm⟩
    have hq1 : SqL K H5 p1 xs1 := (off_sub (M := (W.plus Dl acc).M)).seq (hsm.seq hsq1)
    by_cases hlt1 : k < xs1.length
    · have hx1 : xs1[k]? = some xs1[k] := List.getElem?_eq_getElem hlt1
      refine .inr ⟨⟨xs1, xs1[k], hq1, hx1⟩, fun H6 => LcP W K H1 Dl (Pi i) (k + 1) H6 ∧ Same (off (W.plus Dl acc).M H4) (off (W.plus Dl acc).M H6), fun H6 hp => ⟨xs1.length - (k + 1), by omega, rfl, hlt1, hp⟩, fun y H6 hy6 => ?_⟩
      obtain ⟨rfl, hy6⟩ := hy6
      have hx1 := hy6 xs1 hq1
      obtain ⟨e, he, hde⟩ := dps_at' hd1s hx1
      refine ⟨hw1 x y, ?_⟩
      obtain ⟨F, hE, kE⟩ := hin k out' e acc' H6 y pi' he ⟨pok', ((rtrans a0 a1).1).trans psm', H1, ok1, hD⟩ (dp_same psm' hd2) (dp_same hsm hde)
      refine hE H6 (Vw.refl pok') _ fun z H7 r fr a7 dz => ?_
      refine ⟨acc', a7.2.2, by rw [dps_len pds']; exact hz i k out' pi', lcp_more ok1 hD (kE r fr) a7.2 (psm'.trans a7.1) (dsmono a7 pds') dz, ?_⟩
      rw [off_upd plus_MD]
      exact hsm.trans a7.1
    · have ek : k = xs1.length := by omega
      refine .inl ⟨⟨xs1, hq1, by omega⟩, ?_⟩
      refine ⟨out', acc', hend out' ?_, pok', psm', pds'⟩
      rw [← hl1, ← ek]; exact pi'
  · have ei : i = xs.length := by omega
    refine .inl ⟨⟨xs, hq, by omega⟩, ?_⟩
    obtain ⟨out2, pi2, r, dl⟩ := lcp_end (K := K) (Pi := fun i => Pi i 0) ok1 hD ⟨out, acc, pi, pok, psm, pds⟩
    rw [ei, hxl] at pi2
    exact q _ H' _ ⟨out2, rfl, pi2⟩ (rtrans a1 r) dl
end
end HB
/-! ## HBTop -/
/-! the text, its scopes; tests, policies and states as data -/
namespace HB
open PySem PySem.Spec PyProof.Rows L2

def topS (i : Nat) : Stmt := PySem.Challenge.pw_hangbridge_k41_whole_equality_of_policie.main.body.getD i (.Pass ⟨0, 0, 0, 0⟩)

/-! ### data -/
def fname : Nat → Str
  | 0 => "switch" | 1 => "port" | 2 => "src" | 3 => "dst" | _ => "kind"
def fieldsD : List Str := ["switch", "port", "src", "dst", "kind"]
theorem fname_at {f : Nat} (h : f < 5) : fieldsD[f]? = some (fname f) := by
  match f, h with
  | 0, _ => rfl
  | 1, _ => rfl
  | 2, _ => rfl
  | 3, _ => rfl
  | 4, _ => rfl
theorem fname_inj {f g : Nat} (h : f < 5) (k : g < 5) (e : fname f = fname g) : f = g := by
  match f, h, g, k with
  | 0, _, 0, _ => rfl
  | 1, _, 1, _ => rfl
  | 2, _, 2, _ => rfl
  | 3, _, 3, _ => rfl
  | 4, _, 4, _ => rfl
  | 0, _, 1, _ => exact absurd e (by decide +kernel)
  | 0, _, 2, _ => exact absurd e (by decide +kernel)
  | 0, _, 3, _ => exact absurd e (by decide +kernel)
  | 0, _, 4, _ => exact absurd e (by decide +kernel)
  | 1, _, 0, _ => exact absurd e (by decide +kernel)
  | 1, _, 2, _ => exact absurd e (by decide +kernel)
  | 1, _, 3, _ => exact absurd e (by decide +kernel)
  | 1, _, 4, _ => exact absurd e (by decide +kernel)
  | 2, _, 0, _ => exact absurd e (by decide +kernel)
  | 2, _, 1, _ => exact absurd e (by decide +kernel)
  | 2, _, 3, _ => exact absurd e (by decide +kernel)
  | 2, _, 4, _ => exact absurd e (by decide +kernel)
  | 3, _, 0, _ => exact absurd e (by decide +kernel)
  | 3, _, 1, _ => exact absurd e (by decide +kernel)
  | 3, _, 2, _ => exact absurd e (by decide +kernel)
  | 3, _, 4, _ => exact absurd e (by decide +kernel)
  | 4, _, 0, _ => exact absurd e (by decide +kernel)
  | 4, _, 1, _ => exact absurd e (by decide +kernel)
  | 4, _, 2, _ => exact absurd e (by decide +kernel)
  | 4, _, 3, _ => exact absurd e (by decide +kernel)
theorem fname_ne {f g : Nat} (h : f < 5) (k : g < 5) : decide (fname f = fname g) = decide (f = g) := by
  by_cases e : f = g
  · subst e; simp
  · rw [decide_eq_false e, decide_eq_false fun z => e (fname_inj h k z)]
abbrev tagD (x : Str) (r : List PyData) : PyData := .tuple (.str x :: r)
mutual
def encT : Tst → PyData
  | .is f n => tagD "is" [.str (fname f), .int n]
  | .no t => tagD "not" [encT t]
  | .all ts => tagD "all" [.list (encTs ts)]
  | .any ts => tagD "any" [.list (encTs ts)]
def encTs : List Tst → List PyData
  | [] => []
  | t :: ts => encT t :: encTs ts
end
mutual
def encP : Pol → PyData
  | .test t => tagD "test" [encT t]
  | .set f n => tagD "set" [.str (fname f), .int n]
  | .sum ps => tagD "sum" [.list (encPs ps)]
  | .seq ps => tagD "seq" [.list (encPs ps)]
  | .star p => tagD "star" [encP p]
def encPs : List Pol → List PyData
  | [] => []
  | p :: ps => encP p :: encPs ps
end
theorem encTs_eq : ∀ ts : List Tst, encTs ts = ts.map encT
  | [] => rfl
  | t :: ts => by rw [encTs, encTs_eq ts]; rfl
theorem encPs_eq : ∀ ts : List Pol, encPs ts = ts.map encP
  | [] => rfl
  | t :: ts => by rw [encPs, encPs_eq ts]; rfl
def encS (s : Sta) : PyData := .tuple (s.map .int)
def encN (q : Nat × Int) : PyData := .tuple [.str (fname q.1), .int q.2]
/-- the tag of a test, of a policy -/
def tagT : Tst → Str
  | .is _ _ => "is" | .no _ => "not" | .all _ => "all" | .any _ => "any"
def tagP : Pol → Str
  | .test _ => "test" | .set _ _ => "set" | .sum _ => "sum" | .seq _ => "seq" | .star _ => "star"
def argT : Tst → List PyData
  | .is f n => [.str (fname f), .int n]
  | .no t => [encT t]
  | .all ts => [.list (encTs ts)]
  | .any ts => [.list (encTs ts)]
def argP : Pol → List PyData
  | .test t => [encT t]
  | .set f n => [.str (fname f), .int n]
  | .sum ps => [.list (encPs ps)]
  | .seq ps => [.list (encPs ps)]
  | .star p => [encP p]
theorem encT_tag (t : Tst) : encT t = tagD (tagT t) (argT t) := by cases t <;> simp [encT, tagT, argT]
theorem encP_tag (t : Pol) : encP t = tagD (tagP t) (argP t) := by cases t <;> simp [encP, tagP, argP]

/-! ### a tuple of the top -/
structure Kt (K : PySem.W.Frag) (a : Addr) (ds : List PyData) : Prop where
  lk : ∃ (o : Obj) (its : Array Value) (n : Nat), K.lookup a = some o ∧ o.cls = .type "tuple" ∧ o.dict = none ∧ o.data = .seq its n ∧ its.size ≤ sizeLine ∧ Vals (ds.map dV) its.toList
  fl : ds.all flatD = true
theorem flats_dps {K : PySem.W.Frag} {H : Hp} : ∀ {ds : List PyData}, ds.all flatD = true → DpAll K H (ds.map dV) ds
  | [], _ => .nil
  | d :: ds, h => by
    rw [List.all_cons, Bool.and_eq_true] at h
    refine .cons ?_ (flats_dps h.2)
    cases d <;> first | exact .non | exact .bl _ | exact .int _ | exact .str _ | (exact absurd h.1 Bool.false_ne_true)
section
variable {K : PySem.W.Frag} {H : Hp} {a : Addr} {ds : List PyData}
theorem Kt.seq (k : Kt K a ds) : SqT K H a (ds.map dV) := by
  obtain ⟨o, its, n, h1, h2, _, h4, h5, h6⟩ := k.lk
  exact .inr ⟨o, its, n, h1, h2, h4, h5, h6⟩
theorem Kt.dp (k : Kt K a ds) : Dp K H (.ref a) (.tuple ds) := .tup k.seq (flats_dps k.fl)
theorem Kt.ty (k : Kt K a ds) : tyV K "tuple" (.ref a) H := by
  obtain ⟨o, its, n, h1, h2, h3, _⟩ := k.lk
  exact .inr (.inl ⟨rfl, o, h1, h2, h3⟩)
end

/-! ### scopes -/
theorem scPlace : FnScope ["field"] ["field"] (defScope (topS 4)) := ⟨rfl, rfl, rfl, by decide +kernel, rfl, by decide +kernel, by decide +kernel⟩
theorem scHolds : FnScope ["test", "state", "parts", "part"] ["test", "state"] (defScope (topS 5)) := ⟨rfl, rfl, rfl, by decide +kernel, rfl, by decide +kernel, by decide +kernel⟩
theorem scAll : FnScope ["policy", "states", "found", "state", "other"] ["policy", "states"] (defScope (topS 6)) := ⟨rfl, rfl, rfl, by decide +kernel, rfl, by decide +kernel, by decide +kernel⟩
theorem scStar : FnScope ["policy", "state", "found", "at", "other"] ["policy", "state"] (defScope (topS 7)) := ⟨rfl, rfl, rfl, by decide +kernel, rfl, by decide +kernel, by decide +kernel⟩
theorem scAfter : FnScope ["policy", "state", "kind", "at", "found", "part", "states", "other"] ["policy", "state"] (defScope (topS 8)) := ⟨rfl, rfl, rfl, by decide +kernel, rfl, by decide +kernel, by decide +kernel⟩
end HB
/-! ## HBHolds -/
namespace HB
open PySem PySem.Spec PyProof.Rows L2

theorem inV_strs (x : Str) : ∀ ys : List Str, inV (.str x) (ys.map V.str) = ys.any fun y => y == x
  | [] => rfl
  | y :: ys => by
    have ih := inV_strs x ys
    unfold inV at ih ⊢
    rw [List.map_cons, List.any_cons, List.any_cons, ih]
    rfl
theorem dV_strs (ys : List Str) : (ys.map PyData.str).map dV = ys.map V.str := by rw [List.map_map]; rfl
theorem flatD_strs (ys : List Str) : (ys.map PyData.str).all flatD = true := by rw [List.all_map]; exact List.all_eq_true.mpr fun _ _ => rfl
section
variable {W : Vw} {K : PySem.W.Frag} {σ : L2.St} {H : Hp} {tb : TE}
/-- t.index(x), t a tuple of the top -/
theorem ev_tupIndex {a : Addr} {ys : List Str} {z : Str} {j : Nat} (k : Kt K a (ys.map .str)) (h : EvD W K tb σ H (.str z)) (hj : ys[j]? = some z) (hn : ∀ m, m < j → ys[m]? ≠ some z) :
    EvD W K (tBM K "tuple" (fun x xs H Q => ∃ p, ∃ ys : List Str, ∃ z j, x = .ref p ∧ xs = [.str z] ∧ SqT K H p (ys.map V.str) ∧ ys[j]? = some z ∧ (∀ m, m < j → ys[m]? ≠ some z) ∧ Q (.int (j : Nat)) H) (tC (.ref a)) (tCons tb tNil)) σ H (.int (j : Nat)) := fun H1 a1 Q q => by
  refine ⟨k.ty, h H1 a1 _ fun v H2 d f a2 dv => ?_⟩
  subst f
  obtain rfl := d_str dv
  have s := k.seq (H := H2)
  rw [dV_strs] at s
  exact ⟨a, ys, z, j, rfl, rfl, s, hj, hn, q _ H2 _ rfl a2 (.int _)⟩
end

abbrev spPlace (K : PySem.W.Frag) : Sp := spA K (fun f : Nat => [.str (fname f)]) (fun f => f < 5) (fun f d => d = .int f)
section
variable {P : Program} {w : World} {K : PySem.W.Frag} {mg : Str → Option Value} {base : Heap}
theorem ok_place {f aF : Addr} {fd : FuncData} (F : Fun K "place_of" "place_of" (topS 4) f fd) (gF : mg "FIELDS" = some (.ref aF)) (kF : Kt K aF (fieldsD.map .str)) : FnOk P w K mg base CX0 1 f fd ["field"] (spPlace K) := by
  refine F.ok scPlace (spA_len fun _ => rfl) (fun cdv A outer s H vs Q E hr h => ?_)
  obtain ⟨M, n, wd, ha, hp, q⟩ := h
  cases ha with
  | cons hv ht =>
  cases ht
  refine ⟨_, pss_one (ps_ret (pe_ifExp (pt_cmpR op_in_seq (pv 0) (pe_glob (v := .ref aF) rfl gF rfl) (by rfl))
    (pe_bm PySem.F.plainAttrs_tuple PySem.F.slot_tuple_index PySem.F.type_tuple_index mt_tup_index (pe_glob (v := .ref aF) rfl gF rfl) (pa_cons (pv 0) pa_nil)) pe_non)), ?_⟩
  have ok : (Vw.base H M wd).ok H := Same.refl H
  refine st_ret (W := Vw.base H M wd) (K := K) (F := fun d => d = .int n) (ev_if (B := fun b => b = true) (et_testD (ev_is (ev_in (neg := false) (ds := fieldsD.map .str) (ev_var (d := .str (fname n)) rfl hv) (ev_imp (ev_c kF.dp) fun _ e => .inr e) rfl (flatD_strs _)) ?_)) (fun _ => ?_) (fun e => by cases e)) ok
    fun v d H1 e r dv => q v H1 d e r.2 dv
  · rw [dV_strs]
    show PyData.bool (if false = true then _ else inV (.str (fname n)) (fieldsD.map V.str)) = _
    rw [if_neg Bool.false_ne_true, inV_strs]
    have := List.mem_of_getElem? (fname_at hp)
    rw [show (fieldsD.any fun y => y == fname n) = true from List.any_eq_true.mpr ⟨_, this, beq_self_eq_true _⟩]
  · refine ev_tupIndex kF (ev_var rfl hv) (fname_at hp) fun m hm e => ?_
    rw [fname_at (by omega)] at e
    have := fname_inj (by omega) hp (Option.some.inj e)
    omega
end
end HB
/-! ## HBHold2 -/
namespace HB
open PySem PySem.Spec PyProof.Rows L2

section
variable {W : Vw} {K : PySem.W.Frag} {σ : L2.St} {H : Hp} {D : Ends} {t : TT} {t1 t2 u : TS} {te : TE} {v : V} {x y : Str} {d : PyData} {r : List PyData} {i : Nat}
theorem ev_tagEq (h : σ[i]? = some (some v)) (k : W.D K H v (tagD x r)) : EvD W K (tOp rEq (tOp (rIxT K) (tVar i) (tC (.int 0))) (tC (.str y))) σ H (.bool (decide (x = y))) :=
  ev_eqS (ev_ixT (ev_var h k) ev_int (atI_nat (j := 0) rfl)) ev_str
theorem ev_arg1 (h : σ[i]? = some (some v)) (k : W.D K H v (tagD x (d :: r))) : EvD W K (tOp (rIxT K) (tVar i) (tC (.int 1))) σ H d := ev_ixT (ev_var h k) ev_int (atI_nat (j := 1) rfl)
theorem ev_arg2 {d2 : PyData} (h : σ[i]? = some (some v)) (k : W.D K H v (tagD x (d :: d2 :: r))) : EvD W K (tOp (rIxT K) (tVar i) (tC (.int 2))) σ H d2 := ev_ixT (ev_var h k) ev_int (atI_nat (j := 2) rfl)
theorem sq_yes (h : EvB W t σ H true) (ok : W.ok H) (k : ∀ H1, W.R H H1 → t1 { D with nx := u D } σ H1) : tSeq (tIfS t t1 t2) u D σ H := sq_if h ok (fun _ => k) fun e => by cases e
theorem sq_no (h : EvB W t σ H false) (ok : W.ok H) (k : ∀ H1, W.R H H1 → t2 { D with nx := u D } σ H1) : tSeq (tIfS t t1 t2) u D σ H := sq_if h ok (fun e => by cases e) fun _ => k
theorem st_yes' (h : EvB W t σ H true) (ok : W.ok H) (k : ∀ H1, W.R H H1 → t1 D σ H1) : tIfS t t1 t2 D σ H := st_if h ok (fun _ => k) fun e => by cases e
theorem st_no' (h : EvB W t σ H false) (ok : W.ok H) (k : ∀ H1, W.R H H1 → t2 D σ H1) : tIfS t t1 t2 D σ H := st_if h ok (fun e => by cases e) fun _ => k
/-- a test on the tag, the answer known -/
theorem et_tag {b : Bool} (h : σ[i]? = some (some v)) (k : W.D K H v (tagD x r)) (e : decide (x = y) = b) : EvB W (tTest (tOp rEq (tOp (rIxT K) (tVar i) (tC (.int 0))) (tC (.str y)))) σ H b := et_testD (ev_is (ev_tagEq h k) (by rw [e]))
end
/-- a promise that nobody can ask for -/
theorem fn_dead {P : Program} {w : World} {K : PySem.W.Frag} {mg : Str → Option Value} {base : Heap} {k : Nat} {f : Addr} {fd : FuncData} {ps : List Str} {sp : Sp} (h : ∀ vs H Q E, sp vs H Q E → False) : FnOk P w K mg base CX0 k f fd ps sp :=
  ⟨fun vs H Q E z => (h _ _ _ _ z).elim, fun _ _ _ _ _ _ _ _ _ _ _ _ _ z => (h _ _ _ _ z).elim⟩

def OkT' (n : Nat) (t : Tst) : Prop := ∃ m, m + 1 ≤ n ∧ OkT m t
theorem okT'_no {n : Nat} {t : Tst} (h : OkT' (n + 1) (.no t)) : OkT' n t := by
  obtain ⟨m, hm, o⟩ := h
  cases o with
  | no h => exact ⟨_, by omega, h⟩
theorem okT'_all {n : Nat} {ts : List Tst} (h : OkT' (n + 1) (.all ts)) : ts.length ≤ 3 ∧ ∀ t ∈ ts, OkT' n t := by
  obtain ⟨m, hm, o⟩ := h
  cases o with
  | all l h => exact ⟨l, fun t ht => ⟨_, by omega, h t ht⟩⟩
  | nil => exact ⟨by decide, fun _ h => by cases h⟩
theorem okT'_any {n : Nat} {ts : List Tst} (h : OkT' (n + 1) (.any ts)) : ts.length ≤ 3 ∧ ∀ t ∈ ts, OkT' n t := by
  obtain ⟨m, hm, o⟩ := h
  cases o with
  | any l h => exact ⟨l, fun t ht => ⟨_, by omega, h t ht⟩⟩
theorem okT'_is {n f : Nat} {k : Int} (h : OkT' n (.is f k)) : OkN f k := by
  obtain ⟨m, hm, o⟩ := h
  cases o with
  | is h => exact h

abbrev spHolds (K : PySem.W.Frag) (n : Nat) : Sp := spA K (fun x : Tst × Sta => [encT x.1, encS x.2]) (fun x => OkT' n x.1 ∧ x.2.length = 5) (fun x d => d = .bool (holds x.1 x.2))
section
variable {P : Program} {w : World} {K : PySem.W.Frag} {mg : Str → Option Value} {base : Heap}
theorem ok_holds {f fP : Addr} {fd fdP : FuncData} (F : Fun K "test_holds" "test_holds" (topS 5) f fd) (g : mg "test_holds" = some (.ref f)) (b : Binds K fd ["test", "state"] [])
    (FP : Fun K "place_of" "place_of" (topS 4) fP fdP) (GP : FnOk P w K mg base CX0 1 fP fdP ["field"] (spPlace K)) (gP : mg "place_of" = some (.ref fP)) (bP : Binds K fdP ["field"] [])
    (mAll : mg "all" = none) (mAny : mg "any" = none) : ∀ n, FnOk P w K mg base CX0 (n + 2) f fd ["test", "state"] (spHolds K n)
  | 0 => fn_dead fun vs H Q E ⟨M, x, _, _, ⟨⟨m, hm, _⟩, _⟩, _⟩ => by omega
  | n + 1 => by
    have GS := ok_holds F g b FP GP gP bP mAll mAny n
    refine F.ok scHolds (spA_len fun _ => rfl) (fun cdv A outer s H vs Q E hr h => ?_)
    obtain ⟨M, ⟨t, s5⟩, wd, ha, ⟨hp, hs5⟩, q⟩ := h
    cases ha with
    | cons hv ha =>
    cases ha with
    | cons hw ha =>
    cases ha
    rename_i vt vs
    refine ⟨_, pss_cons (ps_if (pt_cmpR op_eq (pe_ix ix_tup (pv 0) pe_int (fun _ _ => rfl)) pe_str (nomark _))
        (pss_one (ps_ret (pe_cmpR op_eq (pe_ix ix_tup (pv 1) (pe_call GP (hr.mono (by omega)) rfl gP FP.kp bP .nil pass0 (pa_cons (pe_ix ix_tup (pv 0) pe_int (fun _ _ => rfl)) pa_nil)) (fun _ _ => rfl)) (pe_ix ix_tup (pv 0) pe_int (fun _ _ => rfl)) (nomark _)))) pss_nil)
      (pss_cons (ps_if (pt_cmpR op_eq (pe_ix ix_tup (pv 0) pe_int (fun _ _ => rfl)) pe_str (nomark _))
        (pss_one (ps_ret (pe_not (pe_call GS hr rfl g F.kp b .nil pass0 (pa_cons (pe_ix ix_tup (pv 0) pe_int (fun _ _ => rfl)) (pa_cons (pv 1) pa_nil)))))) pss_nil)
      (pss_cons (ps_setLc (i := 2) (own := [("part", 3)]) (g := gName 3) (tt := tYes) rfl scHolds.nd rfl rfl (sw_true rfl rfl rfl (by decide +kernel)) (pi_list (pe_ix ix_tup (pv 0) pe_int (fun _ _ => rfl)))
          (blkOk_by (N := ["test", "state", "parts", "part"]) (sc := defScope (topS 5)) (by decide +kernel)) (fun _ _ _ _ _ => pg_name (i := 3) scHolds.nd rfl (Or.inl rfl)) (fun _ _ _ _ _ => pts_nil)
          (fun _ _ _ _ _ => pe_call GS hr rfl g F.kp b .nil pass0 (pa_cons (pv 3) (pa_cons (pv 1) pa_nil))))
      (pss_one (ps_ret (pe_ifExp (pt_cmpR op_eq (pe_ix ix_tup (pv 0) pe_int (fun _ _ => rfl)) pe_str (nomark _)) (pe_callB (cr_all rfl) rfl mAll (by decide +kernel) (pa_cons (pv 2) pa_nil)) (pe_callB (cr_any rfl) rfl mAny (by decide +kernel) (pa_cons (pv 2) pa_nil))))))), ?_⟩
    have ok : (Vw.base H M wd).ok H := Same.refl H
    have hs5 : s5.length = 5 := hs5
    have hs : (Vw.base H M wd).D K H vs (encS s5) := hw
    have kinds : (∃ f5 k5, t = .is f5 k5) ∨ (∃ t', t = .no t') ∨ ∃ (x : Str) (ts : List Tst) (bb : Bool), encT t = tagD x [.list (encTs ts)] ∧ decide (x = "is") = false ∧ decide (x = "not") = false ∧ decide (x = "all") = bb ∧ ts.length ≤ 3 ∧ (∀ t ∈ ts, OkT' n t) ∧
        holds t s5 = (if bb = true then (ts.map fun t => holds t s5).all id else (ts.map fun t => holds t s5).any id) := by
      cases t with
      | is f5 k5 => exact .inl ⟨f5, k5, rfl⟩
      | no t' => exact .inr (.inl ⟨t', rfl⟩)
      | all ts =>
        obtain ⟨hl, hok⟩ := okT'_all hp
        exact .inr (.inr ⟨"all", ts, true, by rw [encT], by decide +kernel, by decide +kernel, by decide +kernel, hl, hok, by rw [holds, holdsAll_eq, if_pos rfl]⟩)
      | any ts =>
        obtain ⟨hl, hok⟩ := okT'_any hp
        exact .inr (.inr ⟨"any", ts, false, by rw [encT], by decide +kernel, by decide +kernel, by decide +kernel, hl, hok, by rw [holds, holdsAny_eq, if_neg Bool.false_ne_true]⟩)
    rcases kinds with ⟨f5, k5, rfl⟩ | ⟨t', rfl⟩ | ⟨x, ts, bb, et, e1, e2, e3, hl, hok, hh⟩
    · have ht : (Vw.base H M wd).D K H vt (tagD "is" [.str (fname f5), .int k5]) := by rw [show tagD "is" [.str (fname f5), .int k5] = encT (.is f5 k5) by rw [encT]]; exact hv
      have hn := okT'_is hp
      refine sq_yes (et_tag rfl ht (by decide +kernel)) ok fun H1 r1 => ?_
      have hx : s5[f5]? = some (s5.getD f5 0) := by
        rw [List.getD_eq_getElem?_getD, List.getElem?_eq_getElem (by have := hn.1; omega)]; rfl
      refine st_ret (W := Vw.base H M wd) (K := K) (F := fun d => d = .bool (holds (.is f5 k5) s5)) ?_ r1.2 fun v d H4 e r4 dv => q v H4 d e r4.2 dv
      refine ev_eqI (F1 := fun d => d = .int (s5.getD f5 0)) (F2 := fun d => d = .int k5) ?_ (ev_arg2 rfl (dmono r1 ht)) fun e1 e2 a1 a2 => ⟨_, _, a1, a2, by rw [holds]⟩
      refine ev_ixT (ds := s5.map .int) (i := (f5 : Int)) (ev_var rfl (dmono r1 hs)) (ev_call (x := f5) (ea_c (ev_arg1 rfl (dmono r1 ht)) ea_nil) hn.1) ?_
      exact atI_nat (by rw [List.getElem?_map, hx]; rfl)
    · have ht : (Vw.base H M wd).D K H vt (tagD "not" [encT t']) := by rw [show tagD "not" [encT t'] = encT (.no t') by rw [encT]]; exact hv
      refine sq_no (et_tag rfl ht (by decide +kernel)) ok fun H1 r1 => ?_
      refine sq_yes (et_tag rfl (dmono r1 ht) (by decide +kernel)) r1.2 fun H2 r2 => ?_
      have r2' := rtrans r1 r2
      refine st_ret (W := Vw.base H M wd) (K := K) (F := fun d => d = .bool (holds (.no t') s5)) ?_ r2.2 fun v d H4 e r4 dv => q v H4 d e r4.2 dv
      rw [holds]
      exact ev_not (ev_call (x := (t', s5)) (ea_c (ev_arg1 rfl (dmono r2' ht)) (ea_c (ev_var rfl (dmono r2' hs)) ea_nil)) ⟨okT'_no hp, hs5⟩)
    · have ht : (Vw.base H M wd).D K H vt (tagD x [.list (encTs ts)]) := by rw [← et]; exact hv
      refine sq_no (et_tag rfl ht e1) ok fun H1 r1 => ?_
      refine sq_no (et_tag rfl (dmono r1 ht) e2) r1.2 fun H2 r2 => ?_
      have r2' := rtrans r1 r2
      refine sq_asg (F := fun r => ∃ out, r = .list out ∧ out = (ts.map fun t => PyData.bool (holds t s5)).take (encTs ts).length) (W := Vw.base H M wd) (K := K)
        (ev_lc (ds := encTs ts) (ev_arg1 rfl (dmono r2' ht)) (fun _ => rfl) (fun i out => out = (ts.map fun t => PyData.bool (holds t s5)).take i) rfl (fun i out e => ?_) (fun i out d pi hd Dl acc H' z ic dz => ?_)) r2'.2 ?_
      · rw [e, List.length_take, List.length_map]; exact Nat.lt_of_le_of_lt (Nat.min_le_right _ _) (small1000 (by omega))
      · rw [encTs_eq, List.getElem?_map] at hd
        cases hti : ts[i]? with
        | none => rw [hti] at hd; cases hd
        | some ti =>
        rw [hti] at hd
        cases hd
        refine ⟨fun b => b = true, et_yes, fun _ => ⟨fun e => e = .bool (holds ti s5), ?_, fun e he => ?_⟩, fun e => by cases e⟩
        · refine ev_call (x := (ti, s5)) (ea_c (ev_var rfl dz) (ea_c (ev_var rfl (dp_same ic.sm (dmono r2' hs))) ea_nil)) ⟨hok ti (List.mem_of_getElem? hti), hs5⟩
        · rw [pi, he, List.take_add_one, List.getElem?_map, hti]; rfl
      · rintro v d H3 ⟨out, rfl, rfl⟩ r3 dv
        have eo : (ts.map fun t => PyData.bool (holds t s5)).take (encTs ts).length = (ts.map fun t => holds t s5).map PyData.bool := by
          rw [List.take_of_length_le (by rw [encTs_eq, List.length_map, List.length_map]; exact Nat.le_refl _), List.map_map]; rfl
        rw [eo] at dv
        refine st_ret (W := Vw.base H M wd) (K := K) (F := fun d => d = .bool (holds t s5)) (ev_if (et_tag rfl (dmono (rtrans r2' r3) ht) e3) (fun e => ?_) (fun e => ?_)) r3.2 fun v d H4 e r4 dv => q v H4 d e r4.2 dv
        · refine ev_is (ev_all (ev_var rfl dv)) ?_
          rw [hh, if_pos e.symm]
        · refine ev_is (ev_any (ev_var rfl dv)) ?_
          rw [hh, if_neg (by rw [← e]; exact Bool.false_ne_true)]
end
end HB
/-! ## HBMath2 -/
/-! states within 0 .. 15, lists without doubles, the growing list -/
namespace HB

def InU (s : Sta) : Prop := s.length = 5 ∧ ∀ x ∈ s, 0 ≤ x ∧ x ≤ 15
def row16 : List Int := [0, 1, 2, 3, 4, 5, 6, 7, 8, 9, 10, 11, 12, 13, 14, 15]
def rowsU : List (List Int) := [row16, row16, row16, row16, row16]
theorem mem_row16 {x : Int} : x ∈ row16 ↔ 0 ≤ x ∧ x ≤ 15 := by
  unfold row16
  simp only [List.mem_cons, List.not_mem_nil, or_false]
  omega
theorem rowsU_at {i : Nat} {r : List Int} (h : rowsU[i]? = some r) : r = row16 := by
  have : r ∈ rowsU := List.mem_of_getElem? h
  simpa [rowsU] using this
theorem inU_rows {s : Sta} : InU s ↔ InRows rowsU s := by
  constructor
  · rintro ⟨h1, h2⟩
    refine ⟨h1, fun i r x hr hx => ?_⟩
    rw [rowsU_at hr]
    exact mem_row16.mpr (h2 x (List.mem_of_getElem? hx))
  · rintro ⟨h1, h2⟩
    have h1 : s.length = 5 := h1
    refine ⟨h1, fun x hx => ?_⟩
    obtain ⟨i, hi, e⟩ := List.getElem_of_mem hx
    have hr : rowsU[i]? = some (rowsU[i]'(by rw [h1] at hi; exact hi)) := List.getElem?_eq_getElem _
    have := h2 i _ x hr (by rw [List.getElem?_eq_getElem hi, e])
    rw [rowsU_at hr] at this
    exact mem_row16.mp this
theorem okT_nums : ∀ {d : Nat} {t : Tst}, OkT d t → ∀ q ∈ numsT t, OkN q.1 q.2 := by
  intro d t h
  induction h with
  | is h => intro q hq; simp [numsT] at hq; subst hq; exact h
  | no h ih => intro q hq; rw [numsT] at hq; exact ih q hq
  | all l h ih =>
    intro q hq
    rw [numsT, numsTs_eq] at hq
    obtain ⟨t, ht, hq⟩ := List.mem_flatMap.mp hq
    exact ih t ht q hq
  | any l h ih =>
    intro q hq
    rw [numsT, numsTs_eq] at hq
    obtain ⟨t, ht, hq⟩ := List.mem_flatMap.mp hq
    exact ih t ht q hq
  | nil => intro q hq; simp [numsT, numsTs] at hq
theorem okP_nums : ∀ {d : Nat} {p : Pol}, OkP d p → ∀ q ∈ nums p, OkN q.1 q.2 := by
  intro d t h
  induction h with
  | test h => intro q hq; rw [nums] at hq; exact okT_nums h q hq
  | set h => intro q hq; simp [nums] at hq; subst hq; exact h
  | sum l h ih =>
    intro q hq
    rw [nums, numsL_eq] at hq
    obtain ⟨t, ht, hq⟩ := List.mem_flatMap.mp hq
    exact ih t ht q hq
  | seq l h ih =>
    intro q hq
    rw [nums, numsL_eq] at hq
    obtain ⟨t, ht, hq⟩ := List.mem_flatMap.mp hq
    exact ih t ht q hq
  | star h ih => intro q hq; rw [nums] at hq; exact ih q hq
theorem den_U {d : Nat} {p : Pol} {s s' : Sta} (o : OkP d p) (h : InU s) (k : Den p s s') : InU s' :=
  inU_rows.mpr (den_in p s s' (fun q hq r hr => by rw [rowsU_at hr]; exact mem_row16.mpr (okP_nums o q hq).2) (inU_rows.mp h) k)

/-! ### how many there are -/
def codeS : Sta → Nat
  | [] => 0
  | x :: s => x.toNat + 16 * codeS s
theorem codeS_lt : ∀ (s : Sta), (∀ x ∈ s, 0 ≤ x ∧ x ≤ 15) → codeS s < 16 ^ s.length
  | [], _ => by simp [codeS]
  | x :: s, h => by
    have ih := codeS_lt s fun y hy => h y (List.mem_cons_of_mem _ hy)
    have hx := h x List.mem_cons_self
    rw [codeS, List.length_cons, Nat.pow_succ]
    omega
theorem codeS_inj : ∀ (s t : Sta), s.length = t.length → (∀ x ∈ s, 0 ≤ x ∧ x ≤ 15) → (∀ x ∈ t, 0 ≤ x ∧ x ≤ 15) → codeS s = codeS t → s = t
  | [], [], _, _, _, _ => rfl
  | [], _ :: _, h, _, _, _ => by simp at h
  | _ :: _, [], h, _, _, _ => by simp at h
  | x :: s, y :: t, hl, hs, ht, e => by
    have hx := hs x List.mem_cons_self
    have hy := ht y List.mem_cons_self
    rw [codeS, codeS] at e
    have e1 : x = y := by omega
    have e2 : codeS s = codeS t := by omega
    rw [e1, codeS_inj s t (by simpa using hl) (fun z hz => hs z (List.mem_cons_of_mem _ hz)) (fun z hz => ht z (List.mem_cons_of_mem _ hz)) e2]
theorem nodup_len : ∀ (l D : List Nat), l.Nodup → (∀ x ∈ l, x ∈ D) → l.length ≤ D.length
  | [], _, _, _ => Nat.zero_le _
  | x :: l, D, hn, hs => by
    obtain ⟨h1, h2⟩ := List.nodup_cons.mp hn
    have hx : x ∈ D := hs x List.mem_cons_self
    have ih := nodup_len l (D.erase x) h2 fun y hy => (List.mem_erase_of_ne (fun e : y = x => h1 (by rw [← e]; exact hy))).2 (hs y (List.mem_cons_of_mem _ hy))
    have e := List.length_erase_of_mem hx
    have hp : 0 < D.length := List.length_pos_of_mem hx
    rw [List.length_cons]
    omega
theorem few_U {L : List Sta} (hn : L.Nodup) (h : ∀ s ∈ L, InU s) : L.length ≤ 1048576 := by
  have n2 : (L.map codeS).Nodup := by
    refine List.pairwise_map.mpr (hn.imp_of_mem fun {a b} ha hb hne e => hne ?_)
    exact codeS_inj a b (by rw [(h a ha).1, (h b hb).1]) (h a ha).2 (h b hb).2 e
  have := nodup_len (L.map codeS) (List.range 1048576) n2 fun x hx => by
    obtain ⟨s, hs, rfl⟩ := List.mem_map.mp hx
    have := codeS_lt s (h s hs).2
    rw [(h s hs).1] at this
    exact List.mem_range.mpr this
  rwa [List.length_map, List.length_range] at this

/-! ### the growing list -/
def addL (L : List Sta) (Ls : List Sta) : List Sta := Ls.foldl (fun acc s => if s ∈ acc then acc else acc ++ [s]) L
theorem addL_snoc (L Ls : List Sta) (s : Sta) : addL L (Ls ++ [s]) = if s ∈ addL L Ls then addL L Ls else addL L Ls ++ [s] := by
  unfold addL; rw [List.foldl_append]; rfl
theorem addL_mem (L : List Sta) : ∀ (Ls : List Sta) (s : Sta), s ∈ addL L Ls ↔ s ∈ L ∨ s ∈ Ls := by
  intro Ls
  induction Ls generalizing L with
  | nil => intro s; simp [addL]
  | cons a Ls ih =>
    intro s
    show s ∈ addL (if a ∈ L then L else L ++ [a]) Ls ↔ _
    rw [ih]
    by_cases h : a ∈ L
    · rw [if_pos h, List.mem_cons]
      constructor
      · rintro (h1 | h1)
        · exact .inl h1
        · exact .inr (.inr h1)
      · rintro (h1 | rfl | h1)
        · exact .inl h1
        · exact .inl h
        · exact .inr h1
    · rw [if_neg h, List.mem_append, List.mem_singleton, List.mem_cons, or_assoc]
theorem addL_nodup : ∀ (Ls L : List Sta), L.Nodup → (addL L Ls).Nodup := by
  intro Ls
  induction Ls with
  | nil => intro L h; exact h
  | cons a Ls ih =>
    intro L h
    show (addL (if a ∈ L then L else L ++ [a]) Ls).Nodup
    refine ih _ ?_
    by_cases k : a ∈ L
    · rw [if_pos k]; exact h
    · rw [if_neg k]
      refine List.nodup_append.mpr ⟨h, by simp, fun x hx y hy e => ?_⟩
      have : y = a := by simpa using hy
      exact k (by rw [← this, ← e]; exact hx)
theorem addL_pre : ∀ (Ls L : List Sta), ∃ R, addL L Ls = L ++ R := by
  intro Ls
  induction Ls with
  | nil => intro L; exact ⟨[], by simp [addL]⟩
  | cons a Ls ih =>
    intro L
    show ∃ R, addL (if a ∈ L then L else L ++ [a]) Ls = L ++ R
    by_cases k : a ∈ L
    · rw [if_pos k]; exact ih L
    · rw [if_neg k]
      obtain ⟨R, e⟩ := ih (L ++ [a])
      exact ⟨a :: R, by rw [e, List.append_assoc]; rfl⟩
/-- closed and holding the start: holding all that a star leads to -/
theorem star_mem {R : Sta → Sta → Prop} {L : List Sta} {s s' : Sta} (h : s ∈ L) (c : ∀ a ∈ L, ∀ b, R a b → b ∈ L) (k : Star R s s') : s' ∈ L := by
  induction k with
  | refl => exact h
  | tail _ r ih => exact c _ ih _ r
end HB
/-! ## HBData -/
/-! states as data; a list that grows -/
namespace HB
open PySem PySem.Spec PyProof.Rows L2

theorem eqv_ints : ∀ s t : List Int, PyData.eqvAll (s.map .int) (t.map .int) = decide (s = t)
  | [], [] => by simp [PyData.eqvAll]
  | [], _ :: _ => by simp [PyData.eqvAll]
  | _ :: _, [] => by simp [PyData.eqvAll]
  | x :: s, y :: t => by
    rw [List.map_cons, List.map_cons, PyData.eqvAll, eqv_ints s t, PyData.eqv]
    by_cases e : x = y
    · subst e; by_cases e2 : s = t <;> simp [e2]
    · simp [e]
theorem eqv_S (s t : Sta) : PyData.eqv (encS s) (encS t) = decide (s = t) := by
  unfold encS
  rw [PyData.eqv]
  exact eqv_ints s t
theorem eqv_Ss : ∀ L M : List Sta, PyData.eqvAll (L.map encS) (M.map encS) = decide (L = M)
  | [], [] => by simp [PyData.eqvAll]
  | [], _ :: _ => by simp [PyData.eqvAll]
  | _ :: _, [] => by simp [PyData.eqvAll]
  | x :: s, y :: t => by
    rw [List.map_cons, List.map_cons, PyData.eqvAll, eqv_Ss s t, eqv_S]
    by_cases e : x = y
    · subst e; by_cases e2 : s = t <;> simp [e2]
    · simp [e]
theorem eqv_LS (L M : List Sta) : PyData.eqv (.list (L.map encS)) (.list (M.map encS)) = decide (L = M) := by
  rw [PyData.eqv]; exact eqv_Ss L M
theorem lay_ints : ∀ s : List Int, PyData.canLayAll0 (s.map .int) = true
  | [] => by simp [PyData.canLayAll0]
  | x :: s => by rw [List.map_cons, PyData.canLayAll0, lay_ints s]; simp [PyData.canLay0]
theorem dep_ints : ∀ s : List Int, PyData.depthAll (s.map .int) = 0
  | [] => by simp [PyData.depthAll]
  | x :: s => by rw [List.map_cons, PyData.depthAll, dep_ints s]; simp [PyData.depth]
theorem lay_S (s : Sta) : (encS s).canLay0 = true := by unfold encS; rw [PyData.canLay0]; exact lay_ints s
theorem dep_S (s : Sta) : (encS s).depth = 1 := by unfold encS; rw [PyData.depth, dep_ints]
theorem lay_Ss : ∀ L : List Sta, PyData.canLayAll0 (L.map encS) = true
  | [] => by simp [PyData.canLayAll0]
  | x :: s => by rw [List.map_cons, PyData.canLayAll0, lay_Ss s, lay_S]; rfl
theorem dep_Ss : ∀ L : List Sta, PyData.depthAll (L.map encS) ≤ 1
  | [] => by simp [PyData.depthAll]
  | x :: s => by
    have h1 := dep_Ss s
    have h2 := dep_S x
    rw [List.map_cons, PyData.depthAll]
    omega
theorem shaped_of {d : PyData} (h : d.canLay0 = true) (k : d.depth ≤ 64) : SeqAt.shaped d = true := by
  show (d.canLay0 && decide (d.depth ≤ 64)) = true
  rw [h, decide_eq_true k]; rfl
theorem shaped_S (s : Sta) : SeqAt.shaped (encS s) = true := shaped_of (lay_S s) (by rw [dep_S]; decide)
theorem shaped_LS (L : List Sta) : SeqAt.shaped (.list (L.map encS)) = true := shaped_of (by rw [PyData.canLay0]; exact lay_Ss L) (by
  have := dep_Ss L
  rw [PyData.depth]; omega)
theorem any_S (s : Sta) : ∀ L : List Sta, ((L.map encS).any fun z => PyData.eqv z (encS s)) = decide (s ∈ L)
  | [] => by simp
  | a :: L => by
    rw [List.map_cons, List.any_cons, any_S s L, eqv_S]
    by_cases e : a = s
    · subst e; simp
    · rw [decide_eq_false e, Bool.false_or]
      by_cases k : s ∈ L
      · rw [decide_eq_true k, decide_eq_true (List.mem_cons_of_mem _ k)]
      · rw [decide_eq_false k, decide_eq_false fun z => (List.mem_cons.mp z).elim (fun q => e q.symm) k]

/-! ### the list at l, which grows -/
section
variable {W : Vw} {K : PySem.W.Frag} {σ : L2.St} {H : Hp} {l : Addr} {xs : List V} {ds : List PyData} {tb te : TE} {i : Nat} {d : PyData} {D : Ends} {u : TS}
/-- the list at l holds ds -/
structure Lat (W : Vw) (K : PySem.W.Frag) (l : Addr) (xs : List V) (ds : List PyData) (H : Hp) : Prop where
  ok : (W.plus l xs).ok H
  ds : (W.plus l xs).Ds K H xs ds
theorem Lat.seq (h : Lat W K l xs ds H) : SqL K H l xs := SqL.of h.ok.2
theorem Lat.dp (h : Lat W K l xs ds H) : Dp K H (.ref l) (.list ds) := .lst h.seq (Vw.outs h.ds)
theorem Lat.mono {H' : Hp} (h : Lat W K l xs ds H) (r : (W.plus l xs).R H H') : Lat W K l xs ds H' := ⟨r.2, dsmono r h.ds⟩
/-- it is handed on: from then on it stands still -/
theorem Lat.give (h : Lat W K l xs ds H) (hl : W.M l = false) : W.D K H (.ref l) (.list ds) := .lst (SqL.of (off_of hl h.ok.2)) (dps_same plus_sub h.ds)
theorem ev_ixMut {j : Int} (h : σ[i]? = some (some (.ref l))) (k : Lat W K l xs ds H) (hb : EvD (W.plus l xs) K tb σ H (.int j)) (e : atI ds j = some d) : EvD (W.plus l xs) K (tOp (rIxL K) (tVar i) tb) σ H d := fun H1 a Q q =>
  ⟨.ref l, h, hb H1 a _ fun y H2 d2 f2 a2 dy => by
    subst f2
    obtain rfl := d_int dy
    have k2 := k.mono (rtrans a a2)
    obtain ⟨w, e1, dw⟩ := dps_atI k2.ds e
    exact ⟨l, xs, j, w, rfl, rfl, k2.seq, e1, q w H2 d rfl a2 dw⟩⟩
theorem ev_notInMut {te : TE} (h : σ[i]? = some (some (.ref l))) (k : Lat W K l xs ds H) (ha : EvD (W.plus l xs) K te σ H d) (s1 : SeqAt.shaped d = true) (s2 : SeqAt.shaped (.list ds) = true) :
    EvD (W.plus l xs) K (tOp (rNotInD K) te (tVar i)) σ H (.bool (!ds.any fun z => PyData.eqv z d)) := fun H1 a Q q =>
  ha H1 a _ fun x H2 d2 f2 a2 dx => by
    subst f2
    exact ⟨.ref l, h, d2, ds, Vw.out dx, (k.mono (rtrans a a2)).dp, s1, s2, q _ H2 _ rfl a2 (.bl _)⟩
theorem ev_lenMut (h : σ[i]? = some (some (.ref l))) (k : Lat W K l xs ds H) : EvD (W.plus l xs) K (tCB (fun xs H Q => ∃ p ys, xs = [.ref p] ∧ (SqL K H p ys ∨ SqT K H p ys) ∧ Q (.int ys.length) H) (tCons (tVar i) tNil)) σ H (.int (ds.length : Nat)) := fun H1 a Q q =>
  ⟨.ref l, h, l, xs, rfl, .inl (k.mono a).seq, by rw [dps_len k.ds]; exact q _ H1 _ rfl (Vw.refl a.2) (.int _)⟩
/-- l.append(e) -/
theorem st_app (h : σ[i]? = some (some (.ref l))) (k : Lat W K l xs ds H) (h0 : ∃ H0, W.ok H0 ∧ H0 l = none) (ha : EvD (W.plus l xs) K te σ H d) (hz : ds.length < sizeLine)
    (q : ∀ ys H1, Lat W K l ys (ds ++ [d]) H1 → Same (off (W.plus l xs).M H) (off (W.plus l ys).M H1) → D.nx σ H1) : tDrop (tBM K "list" rAppend (tVar i) (tCons te tNil)) D σ H := by
  refine ⟨.ref l, h, .inl ⟨rfl, xs, k.seq⟩, ha H (Vw.refl k.ok) _ fun v H1 d1 f a dv => ?_⟩
  subst f
  obtain ⟨H0, ok0, n0⟩ := h0
  have k1 := k.mono a
  refine ⟨l, xs, v, rfl, rfl, k1.ok.2, by rw [dps_len k.ds]; exact hz, q (xs ++ [v]) _ ⟨plus_app ok0 n0 k1.ok, ?_⟩ ?_⟩
  · show DpAll K (off (W.plus l (xs ++ [v])).M _) _ _
    rw [plus_M (xs ++ [v]) xs, off_upd plus_MD]
    exact dps_app k1.ds (.cons dv .nil)
  · rw [plus_M (xs ++ [v]) xs, off_upd plus_MD]
    exact a.1
/-- x = [] : the new list -/
theorem sq_nil {D : Ends} (ok : W.ok H) (q : ∀ l H1, W.ok H → H l = none → Lat W K l [] [] H1 → Same (off W.M H) (off (W.plus l []).M H1) → u D (σ.set i (some (.ref l))) H1) : tSeq (tAsg (tLst tNil) (gName i)) u D σ H := by
  refine ⟨Nat.zero_le _, fun l hl => ?_⟩
  exact q l _ ok hl ⟨plus_start ok hl, .nil⟩ (plus_in hl (off_same (same_new hl)))
end

/-! ### for other in ..: if other not in found: found.append(other) -/
def tGrow (K : PySem.W.Frag) (tl : TE) (f j : Nat) : TS := tFor (iList K tl) (gName j) (tIfS (tTest (tOp (rNotInD K) (tVar j) (tVar f))) (tDrop (tBM K "list" rAppend (tVar f) (tCons (tVar j) tNil))) tNext)
theorem st_grow {W : Vw} {K : PySem.W.Frag} {σ : L2.St} {H : Hp} {l : Addr} {xs : List V} {L : List Sta} {tl : TE} {f j : Nat} {D : Ends} {F : PyData → Prop} (hf : σ[f]? = some (some (.ref l))) (hj : j < σ.length) (hfj : f ≠ j)
    (k : Lat W K l xs (L.map encS) H) (h0 : ∃ H0, W.ok H0 ∧ H0 l = none) (nd : L.Nodup) (hU : ∀ s ∈ L, InU s)
    (hl : EvP (W.plus l xs) K tl σ H F) (hF : ∀ d, F d → ∃ Ls : List Sta, d = .list (Ls.map encS) ∧ ∀ s ∈ Ls, InU s)
    (q : ∀ Ls y ys H1, F (.list (Ls.map encS)) → Lat W K l ys ((addL L Ls).map encS) H1 → Same (off (W.plus l xs).M H) (off (W.plus l ys).M H1) → D.nx (σ.set j y) H1) : tGrow K tl f j D σ H := by
  refine hl H (Vw.refl k.ok) _ fun v H1 d fd a dv => ?_
  obtain ⟨Ls, rfl, hLs⟩ := hF d fd
  obtain ⟨p, zs, rfl, hs, hd⟩ := d_lst dv
  refine ⟨p, rfl, ⟨zs, off_sub.seq hs⟩, ?_⟩
  have hzl := dps_len hd
  rw [List.length_map] at hzl
  refine for_list (K := K) (xs := zs) (fun i σ' H' => ∃ y ys, σ' = σ.set j y ∧ Lat W K l ys ((addL L (Ls.take i)).map encS) H' ∧ Same (off (W.plus l xs).M H1) (off (W.plus l ys).M H'))
    ⟨σ[j], xs, (List.set_getElem_self hj).symm, k.mono a, Same.refl _⟩ (fun i σ' H' _ ⟨y, ys, _, _, sm⟩ => off_sub.seq (sm.seq hs)) (fun i x σ' H' hx ⟨y, ys, e, k', sm⟩ => ?_) (fun σ' H' ⟨y, ys, e, k', sm⟩ => ?_)
  · subst e
    obtain ⟨d, hd1, hd2⟩ := dps_at' hd hx
    rw [List.getElem?_map] at hd1
    cases hsi : Ls[i]? with
    | none => rw [hsi] at hd1; cases hd1
    | some s =>
    rw [hsi] at hd1
    cases hd1
    have hsU : InU s := hLs s (List.mem_of_getElem? hsi)
    have dx : (W.plus l ys).D K H' x (encS s) := dp_same sm hd2
    have e1 : ((σ.set j y).set j (some x))[j]? = some (some x) := by
      rw [List.getElem?_set_self (by rw [List.length_set]; exact hj)]
    have e2 : ((σ.set j y).set j (some x))[f]? = some (some (.ref l)) := by
      rw [List.getElem?_set_ne (Ne.symm hfj), List.getElem?_set_ne (Ne.symm hfj)]; exact hf
    have et : Ls.take (i + 1) = Ls.take i ++ [s] := by rw [List.take_add_one, hsi]; rfl
    have hin : ∀ z ∈ addL L (Ls.take i), InU z := fun z hz => ((addL_mem L _ z).mp hz).elim (hU z) fun h => hLs z (List.mem_of_mem_take h)
    show tIfS _ _ _ _ _ _
    refine st_if (W := W.plus l ys) (B := fun b => b = (!decide (s ∈ addL L (Ls.take i)))) (et_testD (ev_is (ev_notInMut e2 k' (ev_var e1 dx) (shaped_S s) (shaped_LS _)) (by rw [any_S]))) k'.ok (fun hb H2 r2 => ?_) (fun hb H2 r2 => ?_)
    · have hn : s ∉ addL L (Ls.take i) := fun z => by rw [decide_eq_true z] at hb; cases hb
      refine st_app e2 (k'.mono r2) h0 (ev_var e1 (dmono r2 dx)) ?_ fun ys' H3 k3 s3 => ?_
      · rw [List.length_map]
        have := few_U (addL_nodup (Ls.take i) L nd) hin
        rw [sizeLine_eq]; omega
      · refine ⟨some x, ys', ?_, ?_, ?_⟩
        · rw [List.set_set]
        · rw [et, addL_snoc, if_neg hn, List.map_append]; exact k3
        · exact (sm.trans r2.1).trans s3
    · have hn : s ∈ addL L (Ls.take i) := by
        by_cases z : s ∈ addL L (Ls.take i)
        · exact z
        · rw [decide_eq_false z] at hb; cases hb
      refine ⟨some x, ys, by rw [List.set_set], ?_, sm.trans r2.1⟩
      rw [et, addL_snoc, if_pos hn]
      exact k'.mono r2
  · subst e
    rw [hzl, List.take_length] at k'
    exact q Ls y ys H' fd k' (a.1.trans sm)
end HB
/-! ## HBAfter -/
namespace HB
open PySem PySem.Spec PyProof.Rows L2

def OkP' (n : Nat) (p : Pol) : Prop := ∃ m, m + 1 ≤ n ∧ OkP m p
/-- states that a policy leads to, each once -/
def IsAfter (R : Sta → Prop) (d : PyData) : Prop := ∃ L : List Sta, d = .list (L.map encS) ∧ L.Nodup ∧ ∀ s, s ∈ L ↔ R s
abbrev spAfter (K : PySem.W.Frag) (n : Nat) : Sp := spA K (fun x : Pol × Sta => [encP x.1, encS x.2]) (fun x => OkP' n x.1 ∧ InU x.2) (fun x => IsAfter (Den x.1 x.2))
abbrev spAll (K : PySem.W.Frag) (n : Nat) : Sp := spA K (fun x : Pol × List Sta => [encP x.1, .list (x.2.map encS)]) (fun x => OkP' n x.1 ∧ ∀ s ∈ x.2, InU s) (fun x => IsAfter (fun s' => ∃ s ∈ x.2, Den x.1 s s'))
abbrev spStar (K : PySem.W.Frag) (n : Nat) : Sp := spA K (fun x : Pol × Sta => [encP x.1, encS x.2]) (fun x => OkP' n x.1 ∧ InU x.2) (fun x => IsAfter (Star (fun a b => Den x.1 a b) x.2))
theorem after_U {n : Nat} {p : Pol} {s : Sta} (o : OkP' n p) (hs : InU s) : ∀ d, IsAfter (Den p s) d → ∃ Ls : List Sta, d = .list (Ls.map encS) ∧ ∀ s ∈ Ls, InU s := fun d ⟨L, e, _, m⟩ => ⟨L, e, fun z hz => by
  obtain ⟨k, _, o⟩ := o
  exact den_U o hs ((m z).mp hz)⟩
theorem enc_inj {L M : List Sta} (e : PyData.list (L.map encS) = .list (M.map encS)) : L = M := by
  have := eqv_LS L M
  rw [e, SeqAt.eqv_refl _ (by rw [PyData.canLay0]; exact lay_Ss M)] at this
  exact of_decide_eq_true this.symm
theorem hu65 {k : Nat} {A : Around} (hr : Room k A) : A.units + 65 < cLine := by have := hr.un; omega
theorem one_U {s0 : Sta} {R : Sta → Prop} (h : R s0) : ∀ s ∈ [s0], R s := fun s hs => by
  have e : s = s0 := by simpa using hs
  rw [e]; exact h
section
variable {P : Program} {w : World} {K : PySem.W.Frag} {mg : Str → Option Value} {base : Heap}
theorem ok_all {f fA : Addr} {fd fdA : FuncData} {n k : Nat} (F : Fun K "_after_all" "_after_all" (topS 6) f fd) (FA : Fun K "after" "after" (topS 8) fA fdA) (GA : FnOk P w K mg base CX0 k fA fdA ["policy", "state"] (spAfter K n)) (gA : mg "after" = some (.ref fA)) (bA : Binds K fdA ["policy", "state"] []) :
    FnOk P w K mg base CX0 (k + 1) f fd ["policy", "states"] (spAll K n) := by
  refine F.ok scAll (spA_len fun _ => rfl) (fun cdv A outer s H vs Q E hr h => ?_)
  obtain ⟨M, ⟨p, Ls⟩, wd, ha, ⟨hp, hU⟩, q⟩ := h
  cases ha with
  | cons hv ha =>
  cases ha with
  | cons hw ha =>
  cases ha
  rename_i vp vL
  refine ⟨_, pss_cons (ps_set (i := 2) scAll.nd rfl (.inl rfl) (pe_lst pa_nil))
    (pss_cons (ps_for PassesOwn.never rfl (pi_list (pv 1)) (pg_name (i := 3) scAll.nd rfl (.inl rfl))
      (pss_one (ps_for PassesOwn.never rfl (pi_list (pe_call GA hr rfl gA FA.kp bA .nil pass0 (pa_cons (pv 0) (pa_cons (pv 3) pa_nil)))) (pg_name (i := 4) scAll.nd rfl (.inl rfl))
        (pss_one (ps_if (pt_cmpR (op_notInD (hu65 hr)) (pv 4) (pv 2) (by rfl)) (pss_one (ps_expr (pe_bm PySem.F.plainAttrs_list PySem.F.slot_list_append PySem.F.type_list_append mt_append (pv 2) (pa_cons (pv 4) pa_nil)))) pss_nil)))))
    (pss_one (ps_ret (pv 2)))), ?_⟩
  have ok : (Vw.base H M wd).ok H := Same.refl H
  refine sq_nil (K := K) ok fun l H1 _ hl k1 sm1 => ?_
  have hU : ∀ s ∈ Ls, InU s := hU
  -- the states behind the first i
  let cur : Nat → List Sta → Prop := fun i L => L.Nodup ∧ (∀ s ∈ L, InU s) ∧ ∀ s', s' ∈ L ↔ ∃ s ∈ Ls.take i, Den p s s'
  refine sq_for (W := (Vw.base H M wd).plus l []) (ds := Ls.map encS) (ev_var rfl (dp_same sm1 hw)) k1.ok fun H2 r2 => ?_
  refine ⟨fun i σ' H' => ∃ L xs y3 y4, σ' = [some vp, some vL, some (.ref l), y3, y4] ∧ Lat (Vw.base H M wd) K l xs (L.map encS) H' ∧ Same (off ((Vw.base H M wd).plus l []).M H2) (off ((Vw.base H M wd).plus l xs).M H') ∧ cur i L,
    ⟨[], [], none, none, rfl, k1.mono r2, Same.refl _, List.nodup_nil, fun _ h => (by cases h), fun s' => by simp⟩, fun i σ' H' ⟨L, xs, y3, y4, _, _, sm, _⟩ => sm, ?_, ?_⟩
  · rintro i d x σ' H' hd ⟨L, xs, y3, y4, rfl, kL, sm, nd, uL, mL⟩ dx
    rw [List.getElem?_map] at hd
    cases hsi : Ls[i]? with
    | none => rw [hsi] at hd; cases hd
    | some s =>
    rw [hsi] at hd
    cases hd
    have hs : InU s := hU s (List.mem_of_getElem? hsi)
    show tGrow K _ 2 4 _ _ _
    refine st_grow (W := Vw.base H M wd) (F := IsAfter (Den p s)) rfl (by show 4 < 5; decide) (by decide) kL ⟨H, ok, hl⟩ nd uL
      (ev_call (W := (Vw.base H M wd).plus l xs) (x := (p, s)) (ea_c (ev_var rfl (dp_same ((sm1.trans r2.1).trans sm) hv)) (ea_c (ev_var rfl dx) ea_nil)) ⟨hp, hs⟩) (after_U hp hs) fun Ls' y ys H3 f3 k3 sm3 => ?_
    obtain ⟨L', e', _, m'⟩ := f3
    obtain rfl := enc_inj e'
    refine ⟨addL L Ls', ys, some x, y, rfl, k3, sm.trans sm3, addL_nodup _ _ nd, fun z hz => ?_, fun s' => ?_⟩
    · rcases (addL_mem L Ls' z).mp hz with h | h
      · exact uL z h
      · obtain ⟨_, _, o⟩ := hp
        exact den_U o hs ((m' z).mp h)
    · rw [addL_mem, mL, m', List.take_add_one, hsi]
      constructor
      · rintro (⟨z, hz, dz⟩ | h)
        · exact ⟨z, List.mem_append_left _ hz, dz⟩
        · exact ⟨s, List.mem_append_right _ (by simp), h⟩
      · rintro ⟨z, hz, dz⟩
        rcases List.mem_append.mp hz with hz | hz
        · exact .inl ⟨z, hz, dz⟩
        · have : z = s := by simpa using hz
          exact .inr (this ▸ dz)
  · rintro σ' H' ⟨L, xs, y3, y4, rfl, kL, sm, nd, uL, mL⟩
    refine ⟨.ref l, rfl, q (.ref l) H' (.list (L.map encS)) ⟨L, rfl, nd, fun s' => ?_⟩ kL.ok.1 (kL.give (Vw.fresh ok hl))⟩
    rw [mL, List.length_map, List.take_length]
theorem ok_star {f fA : Addr} {fd fdA : FuncData} {n k : Nat} (F : Fun K "_after_star" "_after_star" (topS 7) f fd) (FA : Fun K "after" "after" (topS 8) fA fdA) (GA : FnOk P w K mg base CX0 k fA fdA ["policy", "state"] (spAfter K n)) (gA : mg "after" = some (.ref fA)) (bA : Binds K fdA ["policy", "state"] []) (mLen : mg "len" = none) :
    FnOk P w K mg base CX0 (k + 1) f fd ["policy", "state"] (spStar K n) := by
  refine F.ok scStar (spA_len fun _ => rfl) (fun cdv A outer s H vs Q E hr h => ?_)
  obtain ⟨M, ⟨p, s0⟩, wd, ha, ⟨hp, hU⟩, q⟩ := h
  cases ha with
  | cons hv ha =>
  cases ha with
  | cons hw ha =>
  cases ha
  rename_i vp v0
  refine ⟨_, pss_cons (ps_set (i := 2) scStar.nd rfl (.inl rfl) (pe_lst (pa_cons (pv 1) pa_nil)))
    (pss_cons (ps_set (i := 3) scStar.nd rfl (.inl rfl) pe_int)
    (pss_cons (ps_while PassesOwn.never (pt_cmpR op_lt (pv 3) (pe_callB call_len_seq rfl mLen PySem.boot_len (pa_cons (pv 2) pa_nil)) (nomark _))
      (pss_cons (ps_for PassesOwn.never rfl (pi_list (pe_call GA hr rfl gA FA.kp bA .nil pass0 (pa_cons (pv 0) (pa_cons (pe_ix ix_list (pv 2) (pv 3) (fun _ _ => rfl)) pa_nil)))) (pg_name (i := 4) scStar.nd rfl (.inl rfl))
        (pss_one (ps_if (pt_cmpR (op_notInD (hu65 hr)) (pv 4) (pv 2) (by rfl)) (pss_one (ps_expr (pe_bm PySem.F.plainAttrs_list PySem.F.slot_list_append PySem.F.type_list_append mt_append (pv 2) (pa_cons (pv 4) pa_nil)))) pss_nil)))
      (pss_one (ps_aug (i := 3) scStar.nd rfl (.inl rfl) pe_int ip_add))))
    (pss_one (ps_ret (pv 2))))), ?_⟩
  have ok : (Vw.base H M wd).ok H := Same.refl H
  have hU : InU s0 := hU
  have hw : (Vw.base H M wd).D K H v0 (encS s0) := hw
  refine ⟨v0, rfl, by show 1 ≤ sizeLine; decide, fun l hl => ?_⟩
  have k1 : Lat (Vw.base H M wd) K l [v0] ([s0].map encS) (upd H l (.lst [v0])) := ⟨⟨same_new hl, upd_same⟩, .cons (dp_same (plus_in hl (off_same (same_new hl))) hw) .nil⟩
  have sm1 : Same (off (Vw.base H M wd).M H) (off ((Vw.base H M wd).plus l [v0]).M (upd H l (.lst [v0]))) := plus_in hl (off_same (same_new hl))
  obtain ⟨m0, hm0, o0⟩ := id hp
  show tWhile _ _ _ _ _
  let inv : Nat → L2.St → Hp → Prop := fun m σ' H' => ∃ (L : List Sta) (xs : List V) (c : Nat) (y4 : Option V), m = 1048577 - c ∧ σ' = [some vp, some v0, some (.ref l), some (.int (c : Int)), y4] ∧ Lat (Vw.base H M wd) K l xs (L.map encS) H' ∧ Same (off (Vw.base H M wd).M H) (off ((Vw.base H M wd).plus l xs).M H') ∧
    c ≤ L.length ∧ L.Nodup ∧ (∀ s ∈ L, InU s) ∧ s0 ∈ L ∧ (∀ s ∈ L, Star (fun a b => Den p a b) s0 s) ∧ ∀ s ∈ L.take c, ∀ s', Den p s s' → s' ∈ L
  refine ⟨inv, ⟨1048577, [s0], [v0], 0, none, by omega, rfl, k1, sm1, by simp, by simp, one_U hU, by simp, one_U (R := fun s => Star (fun a b => Den p a b) s0 s) (.refl _), fun _ h => by simp at h⟩, ?_⟩
  rintro m σ' H' ⟨L, xs, c, y4, rfl, rfl, kL, sm, hc, nd, uL, s0L, stL, clL⟩
  have few := few_U nd uL
  have et : EvB ((Vw.base H M wd).plus l xs) (tTest (tOp (rI0 fun i j => .bl (decide (i < j))) (tVar 3) (tCB (fun xs H Q => ∃ p ys, xs = [.ref p] ∧ (SqL K H p ys ∨ SqT K H p ys) ∧ Q (.int ys.length) H) (tCons (tVar 2) tNil)))) [some vp, some v0, some (.ref l), some (.int (c : Int)), y4] H' (decide (c < L.length)) := by
    refine et_testD (ev_I0 (gd := fun i j => .bool (decide (i < j))) (fun i j H => .bl _) (F1 := fun d => d = .int (c : Int)) (F2 := fun d => d = .int (L.length : Nat)) (ev_var rfl (.int _)) (ev_is (ev_lenMut rfl kL) (by rw [List.length_map])) fun e1 e2 a1 a2 => ⟨_, _, a1, a2, ?_⟩)
    by_cases z : c < L.length
    · rw [decide_eq_true z, decide_eq_true (by omega)]
    · rw [decide_eq_false z, decide_eq_false (by omega)]
  refine et H' (Vw.refl kL.ok) _ fun b H2 hb r2 => ?_
  have hb : b = decide (c < L.length) := hb
  by_cases z : c < L.length
  · rw [decide_eq_true z] at hb
    subst hb
    refine iteT ⟨fun σ2 H3 => ∃ m', m' < 1048577 - c ∧ inv m' σ2 H3, fun _ _ h => h, ?_⟩
    have hLc : L[c]? = some L[c] := List.getElem?_eq_getElem z
    generalize L[c] = sc at hLc
    have hsc : InU sc := uL sc (List.mem_of_getElem? hLc)
    have k2 := kL.mono r2
    refine (show tGrow K _ 2 4 _ _ _ from st_grow (W := Vw.base H M wd) (F := IsAfter (Den p sc)) rfl (by show 4 < 5; decide) (by decide) k2 ⟨H, ok, hl⟩ nd uL
      (ev_call (W := (Vw.base H M wd).plus l xs) (x := (p, sc)) (ea_c (ev_var rfl (dp_same (sm.trans r2.1) hv)) (ea_c (ev_ixMut rfl k2 (ev_var rfl (.int _)) (atI_nat (by rw [List.getElem?_map, hLc]; rfl))) ea_nil)) ⟨hp, hsc⟩) (after_U hp hsc) fun Ls' y ys H3 f3 k3 sm3 => ?_)
    obtain ⟨L', e', _, m'⟩ := f3
    obtain rfl := enc_inj e'
    have sm' := (sm.trans r2.1).trans sm3
    -- at += 1
    refine ⟨.int (c : Int), rfl, c, 1, rfl, rfl, 1048577 - (c + 1), by omega, addL L Ls', ys, c + 1, y, rfl, ?_, k3, sm', ?_, addL_nodup _ _ nd, fun z hz => ?_, (addL_mem L Ls' s0).mpr (.inl s0L), fun z hz => ?_, fun a ha b hab => ?_⟩
    · rfl
    · obtain ⟨R, e⟩ := addL_pre Ls' L
      rw [e, List.length_append]; omega
    · rcases (addL_mem L Ls' z).mp hz with h | h
      · exact uL z h
      · exact den_U o0 hsc ((m' z).mp h)
    · rcases (addL_mem L Ls' z).mp hz with h | h
      · exact stL z h
      · exact .tail (stL sc (List.mem_of_getElem? hLc)) ((m' z).mp h)
    · obtain ⟨R, e⟩ := addL_pre Ls' L
      rw [e, List.take_append_of_le_length (by omega), List.take_add_one, hLc] at ha
      rw [addL_mem]
      rcases List.mem_append.mp ha with ha | ha
      · exact .inl (clL a ha b hab)
      · have : a = sc := by simpa using ha
        exact .inr ((m' b).mpr (this ▸ hab))
  · rw [decide_eq_false z] at hb
    subst hb
    refine iteF ?_
    have k2 := kL.mono r2
    refine ⟨.ref l, rfl, q (.ref l) H2 (.list (L.map encS)) ⟨L, rfl, nd, fun s' => ⟨stL s', fun st => ?_⟩⟩ k2.ok.1 (k2.give (Vw.fresh ok hl))⟩
    refine star_mem s0L (fun a ha b hab => clL a ?_ b hab) st
    rw [List.take_of_length_le (by omega)]; exact ha
end
end HB
/-! ## HBOps -/
/-! lists and tuples put together, cut -/
namespace HB
open PySem PySem.Spec PyProof.Rows L2
section
variable {X : Cx}
def rCatS (K : PySem.W.Frag) : R2 := fun x y H Q => ∃ l b xs zs, x = .ref l ∧ y = .ref b ∧ SqL K H l xs ∧ SqL K H b zs ∧ xs.length + zs.length ≤ sizeLine ∧ ∀ p, H p = none → Q (.ref p) (upd H p (.lst (xs ++ zs)))
theorem op_catS : OpR X (binaryOp .Add) (rCatS X.K) := by
  intro pins s σ H x y v u Q I rx ry ⟨l, b, xs, zs, ex, ey, hx, hy, hz, q⟩
  subst ex ey
  cases rx
  cases ry
  obtain ⟨its, r1, p1, _⟩ := I.list hx
  obtain ⟨its2, r2, p2, _⟩ := I.list hy
  obtain ⟨⟨c1, d1, t1, s1⟩, n1, g1, e1, _, z1⟩ := p1
  obtain ⟨⟨c2, d2, t2, s2⟩, n2, g2, e2, _, z2⟩ := p2
  simp only at e1 z1 e2 z2
  subst e1 z1 e2 z2
  have w1 := r1.length
  have w2 := r2.length
  refine concat_meets ⟨_, g1, rfl⟩ ⟨_, g2, rfl⟩ noFill_list_add seq_list_add PySem.F.slot_list_add PySem.F.entry_list_add (PySem.F.args_list_add_2 _ _) (list_addW l b its.toArray its2.toArray n1 n2 d1 d2 s1 s2 (by rw [List.size_toArray, List.size_toArray]; omega)) ⟨g1, g2, ?_⟩
  rw [show its.toArray ++ its2.toArray = (its ++ its2).toArray by simp]
  exact ⟨.ref _, _, I.lnew (t' := s.toks) (r1.append r2) (by rw [List.length_append]; exact hz), rfl, q _ I.fresh⟩
/-! the same rules, K said: for use within a comprehension -/
theorem op_notInK (K : PySem.W.Frag) (hu : X.A.units + 65 < cLine) (hK : X.K = K := by rfl) : OpR X (compareOp .NotIn) (rNotInD K) := hK ▸ op_notInD hu
theorem op_inK (K : PySem.W.Frag) (hu : X.A.units + 65 < cLine) (hK : X.K = K := by rfl) : OpR X (compareOp .In) (rInD K) := hK ▸ op_inD hu
theorem op_in_seqK (K : PySem.W.Frag) (hK : X.K = K := by rfl) : OpR X (compareOp .In) (rIn K false) := hK ▸ op_in_seq
theorem op_notIn_seqK (K : PySem.W.Frag) (hK : X.K = K := by rfl) : OpR X (compareOp .NotIn) (rIn K true) := hK ▸ op_notIn_seq
theorem ix_tupK (K : PySem.W.Frag) (hK : X.K = K := by rfl) : IxR X (rIxT K) := hK ▸ ix_tup
theorem ix_listK (K : PySem.W.Frag) (hK : X.K = K := by rfl) : IxR X (rIxL K) := hK ▸ ix_list
theorem op_catAK (K : PySem.W.Frag) (hK : X.K = K := by rfl) : OpR X (binaryOp .Add) (rCatA K) := hK ▸ op_catA
theorem sl_tupAK (K : PySem.W.Frag) (hK : X.K = K := by rfl) : SlR X (rSlA K) := hK ▸ sl_tupA
theorem pi_listK (K : PySem.W.Frag) {tg l : Expr} {tl : TE} (hl : PE X l tl) (hK : X.K = K := by rfl) : PI X tg l (iList K tl) := hK ▸ pi_list hl
theorem op_neK (K : PySem.W.Frag) (hu : X.A.units + 64 < cLine) (hK : X.K = K := by rfl) : OpR X (compareOp .NotEq) (rNeD K) := hK ▸ op_neD hu
end
section
variable {W : Vw} {K : PySem.W.Frag} {σ : L2.St} {H : Hp} {ta tb te : TE} {tl th : TO} {F1 F2 G : PyData → Prop}
theorem ev_catS (ha : EvP W K ta σ H F1) (hb : EvP W K tb σ H F2) (k : ∀ e1 e2, F1 e1 → F2 e2 → ∃ a b, e1 = .list a ∧ e2 = .list b ∧ a.length + b.length ≤ sizeLine ∧ G (.list (a ++ b))) : EvP W K (tOp (rCatS K) ta tb) σ H G :=
  ev_op ha hb fun x y d1 d2 H1 f1 f2 r dx dy Q q => by
    obtain ⟨a, b, rfl, rfl, hz, g⟩ := k d1 d2 f1 f2
    obtain ⟨p, xs, rfl, hs, hd⟩ := d_lst dx
    obtain ⟨p2, ys, rfl, hs2, hd2⟩ := d_lst dy
    exact ⟨p, p2, xs, ys, rfl, rfl, off_sub.seq hs, off_sub.seq hs2, by rw [dps_len hd, dps_len hd2]; exact hz, fun z hz => q _ _ _ g (Vw.newR r.2 hz) (Vw.newL r.2 hz (dps_app hd hd2))⟩
theorem ev_catA (ha : EvP W K ta σ H F1) (hb : EvP W K tb σ H F2) (k : ∀ e1 e2, F1 e1 → F2 e2 → ∃ a b, e1 = .tuple a ∧ e2 = .tuple b ∧ a.length + b.length ≤ sizeLine ∧ G (.tuple (a ++ b))) : EvP W K (tOp (rCatA K) ta tb) σ H G :=
  ev_op ha hb fun x y d1 d2 H1 f1 f2 r dx dy Q q => by
    obtain ⟨a, b, rfl, rfl, hz, g⟩ := k d1 d2 f1 f2
    obtain ⟨p, xs, rfl, hs, hd⟩ := d_tup dx
    obtain ⟨p2, ys, rfl, hs2, hd2⟩ := d_tup dy
    refine ⟨p, p2, xs, ys, rfl, rfl, same_t off_sub hs, same_t off_sub hs2, by rw [dps_len hd, dps_len hd2]; exact hz, fun e => ?_, fun e1 e => ?_, fun e1 e2 z hz => q _ _ _ g (Vw.newR r.2 hz) (Vw.newT r.2 hz (dps_app hd hd2))⟩
    · subst e
      cases hd
      exact q _ H1 _ g (Vw.refl r.2) dy
    · subst e
      cases hd2
      rw [List.append_nil] at g
      exact q _ H1 _ g (Vw.refl r.2) dx
theorem ev_catAD {a b : List PyData} (ha : EvD W K ta σ H (.tuple a)) (hb : EvD W K tb σ H (.tuple b)) (hz : a.length + b.length ≤ 1000) : EvD W K (tOp (rCatA K) ta tb) σ H (.tuple (a ++ b)) :=
  ev_catA ha hb fun e1 e2 f1 f2 => ⟨a, b, f1, f2, Nat.le_of_lt (small1000 hz), rfl⟩
/-- the walked list told by what it is -/
theorem ev_lc_src {F : PyData → Prop} {tl' : TE} {g : TG} {t : TT} {vs : List Nat} (h : EvP W K tl' σ H F) (k : ∀ v d H1, F d → W.R H H1 → W.D K H1 v d → EvP W K (tLc (iList K (tC v)) g t te vs) σ H1 G) : EvP W K (tLc (iList K tl') g t te vs) σ H G := fun H0 a0 Q q =>
  h H0 a0 _ fun v H1 d f a1 dv => k v d H1 f (rtrans a0 a1) dv H1 (Vw.refl a1.2) Q fun v H2 d g a2 dv => q v H2 d g (rtrans a1 a2) dv
theorem sq_pass {t : TT} {t1 u : TS} {D : Ends} (h : EvB W t σ H false) (ok : W.ok H) (k : ∀ H1, W.R H H1 → u D σ H1) : tSeq (tIfS t t1 tNext) u D σ H := sq_no h ok k
/-! ### slices -/
def EvO (W : Vw) (to : TO) (σ : L2.St) (H : Hp) (o : Option Int) : Prop := ∀ H1, W.R H H1 → ∀ Q : Option Int → Hp → Prop, (∀ H2, W.R H1 H2 → Q o H2) → to σ H1 Q
theorem eo_none : EvO W tNoPart σ H none := fun H1 a Q q => q H1 (Vw.refl a.2)
theorem eo_some {i : Int} (h : EvD W K te σ H (.int i)) : EvO W (tPart te) σ H (some i) := fun H1 a Q q => h H1 a _ fun v H2 d f a2 dv => by
  subst f
  obtain rfl := d_int dv
  exact ⟨i, rfl, q H2 a2⟩
def cutD {α : Type} (ds : List α) (lo hi : Option Int) : List α := (ds.drop (HT.sIx ds.length 0 lo)).take (HT.sIx ds.length ds.length hi - HT.sIx ds.length 0 lo)
theorem cut_dps {xs : List V} {ds : List PyData} {lo hi : Option Int} (h : DpAll K H xs ds) : DpAll K H (cutV xs lo hi) (cutD ds lo hi) := by
  unfold cutV cutD
  rw [dps_len h]
  exact dps_take _ (dps_drop _ h)
theorem ev_slA {ds : List PyData} {lo hi : Option Int} (h : EvD W K te σ H (.tuple ds)) (kl : EvO W tl σ H lo) (kh : EvO W th σ H hi) : EvD W K (tSl (rSlA K) te tl th) σ H (.tuple (cutD ds lo hi)) := fun H0 a0 Q q =>
  h H0 a0 _ fun x H1 d f a1 dx => kl H1 (rtrans a0 a1) _ fun H2 a2 => kh H2 (rtrans a0 (rtrans a1 a2)) _ fun H3 a3 => by
    subst f
    have dx3 := dmono a3 (dmono a2 dx)
    obtain ⟨p, xs, rfl, hs, hd⟩ := d_tup dx3
    have r := rtrans a1 (rtrans a2 a3)
    refine ⟨p, xs, rfl, same_t off_sub hs, fun e => ?_, fun _ z hz => q _ _ _ rfl (rtrans r (Vw.newR a3.2 hz)) (Vw.newT a3.2 hz (cut_dps hd))⟩
    rw [dps_len hd] at e
    refine q _ H3 _ ?_ r dx3
    unfold cutD
    rw [e.1, e.2, List.drop_zero, Nat.sub_zero, List.take_length]
theorem ev_slL {ds : List PyData} {lo hi : Option Int} (h : EvD W K te σ H (.list ds)) (kl : EvO W tl σ H lo) (kh : EvO W th σ H hi) : EvD W K (tSl (rSlL K) te tl th) σ H (.list (cutD ds lo hi)) := fun H0 a0 Q q =>
  h H0 a0 _ fun x H1 d f a1 dx => kl H1 (rtrans a0 a1) _ fun H2 a2 => kh H2 (rtrans a0 (rtrans a1 a2)) _ fun H3 a3 => by
    subst f
    have dx3 := dmono a3 (dmono a2 dx)
    obtain ⟨p, xs, rfl, hs, hd⟩ := d_lst dx3
    exact ⟨p, xs, rfl, off_sub.seq hs, fun z hz => q _ _ _ rfl (rtrans (rtrans a1 (rtrans a2 a3)) (Vw.newR a3.2 hz)) (Vw.newL a3.2 hz (cut_dps hd))⟩
theorem cut_to {α : Type} (ds : List α) {k : Nat} (h : k ≤ ds.length) : cutD ds none (some (k : Int)) = ds.take k := by
  unfold cutD
  rw [HT.sIx_none, HT.sIx_nat, List.drop_zero, Nat.sub_zero, Nat.min_eq_left h]
theorem cut_from {α : Type} (ds : List α) {k : Nat} (h : k ≤ ds.length) : cutD ds (some (k : Int)) none = ds.drop k := by
  unfold cutD
  rw [HT.sIx_none, HT.sIx_nat, Nat.min_eq_left h, List.take_of_length_le (by rw [List.length_drop]; exact Nat.le_refl _)]
theorem set_cut (s : Sta) (f : Nat) (n : Int) (h : f < s.length) : s.take f ++ [n] ++ s.drop (f + 1) = s.set f n := by
  rw [List.set_eq_take_append_cons_drop, if_pos h, List.append_assoc]; rfl
end
end HB
/-! ## HBAft2 -/
namespace HB
open PySem PySem.Spec PyProof.Rows L2
section
variable {W : Vw} {K : PySem.W.Frag} {σ : L2.St} {H : Hp} {ta tb : TE} {d : PyData} {ds : List PyData}
theorem ev_notInD (ha : EvD W K ta σ H d) (hb : EvD W K tb σ H (.list ds)) (s1 : SeqAt.shaped d = true) (s2 : SeqAt.shaped (.list ds) = true) : EvD W K (tOp (rNotInD K) ta tb) σ H (.bool (!ds.any fun z => PyData.eqv z d)) :=
  ev_op ha hb fun x y d1 d2 H1 f1 f2 r dx dy Q q => by
    subst f1; subst f2
    exact ⟨d1, ds, Vw.out dx, Vw.out dy, s1, s2, q _ H1 _ rfl (Vw.refl r.2) (.bl _)⟩
end
theorem dq {x y : Str} {b : Bool} (z : Str) (e : x = z) (h : decide (z = y) = b) : decide (x = y) = b := by subst e; exact h
theorem okP'_sum {n : Nat} {ps : List Pol} (h : OkP' (n + 1) (.sum ps)) : ps.length ≤ 3 ∧ ∀ p ∈ ps, OkP' n p := by
  obtain ⟨m, hm, o⟩ := h
  cases o with
  | sum l h => exact ⟨l, fun t ht => ⟨_, by omega, h t ht⟩⟩
theorem okP'_seq {n : Nat} {ps : List Pol} (h : OkP' (n + 1) (.seq ps)) : ps.length ≤ 3 ∧ ∀ p ∈ ps, OkP' n p := by
  obtain ⟨m, hm, o⟩ := h
  cases o with
  | seq l h => exact ⟨l, fun t ht => ⟨_, by omega, h t ht⟩⟩
theorem okP'_star {n : Nat} {p : Pol} (h : OkP' (n + 1) (.star p)) : OkP' n p := by
  obtain ⟨m, hm, o⟩ := h
  cases o with
  | star h => exact ⟨_, by omega, h⟩
theorem okP'_test {n : Nat} {t : Tst} (h : OkP' n (.test t)) : OkT' 3 t := by
  obtain ⟨m, hm, o⟩ := h
  cases o with
  | test h => exact ⟨2, by omega, h⟩
theorem okP'_set {n f : Nat} {k : Int} (h : OkP' n (.set f k)) : OkN f k := by
  obtain ⟨m, hm, o⟩ := h
  cases o with
  | set h => exact h
theorem filt_nodup {L Ls : List Sta} (h : L.Nodup) (k : Ls.Nodup) : (L ++ Ls.filter fun s => !decide (s ∈ L)).Nodup := by
  refine List.nodup_append.mpr ⟨h, k.filter _, fun x hx y hy e => ?_⟩
  subst e
  have := (List.mem_filter.mp hy).2
  simp [hx] at this
theorem filt_mem {L Ls : List Sta} {s : Sta} : s ∈ L ++ (Ls.filter fun s => !decide (s ∈ L)) ↔ s ∈ L ∨ s ∈ Ls := by
  rw [List.mem_append, List.mem_filter]
  constructor
  · rintro (h | h)
    · exact .inl h
    · exact .inr h.1
  · rintro (h | h)
    · exact .inl h
    · by_cases k : s ∈ L
      · exact .inl k
      · exact .inr ⟨h, by simp [k]⟩
section
variable {P : Program} {w : World} {K : PySem.W.Frag} {mg : Str → Option Value} {base : Heap}
theorem ok_after {f fH fP fA fS : Addr} {fd fdH fdP fdA fdS : FuncData} (F : Fun K "after" "after" (topS 8) f fd) (g : mg "after" = some (.ref f)) (b : Binds K fd ["policy", "state"] [])
    (FH : Fun K "test_holds" "test_holds" (topS 5) fH fdH) (GH : FnOk P w K mg base CX0 5 fH fdH ["test", "state"] (spHolds K 3)) (gH : mg "test_holds" = some (.ref fH)) (bH : Binds K fdH ["test", "state"] [])
    (FP : Fun K "place_of" "place_of" (topS 4) fP fdP) (GP : FnOk P w K mg base CX0 1 fP fdP ["field"] (spPlace K)) (gP : mg "place_of" = some (.ref fP)) (bP : Binds K fdP ["field"] [])
    (FA : Fun K "_after_all" "_after_all" (topS 6) fA fdA) (gA : mg "_after_all" = some (.ref fA)) (bA : Binds K fdA ["policy", "states"] [])
    (FS : Fun K "_after_star" "_after_star" (topS 7) fS fdS) (gS : mg "_after_star" = some (.ref fS)) (bS : Binds K fdS ["policy", "state"] []) (mLen : mg "len" = none) :
    ∀ n, FnOk P w K mg base CX0 (6 + 2 * n) f fd ["policy", "state"] (spAfter K n)
  | 0 => fn_dead fun vs H Q E ⟨M, x, _, _, ⟨⟨m, hm, _⟩, _⟩, _⟩ => by omega
  | n + 1 => by
    have GR := ok_after F g b FH GH gH bH FP GP gP bP FA gA bA FS gS bS mLen n
    have GA := ok_all FA F GR g b
    have GS := ok_star FS F GR g b mLen
    refine F.ok (k := 6 + 2 * n + 1) scAfter (spA_len fun _ => rfl) (fun cdv A outer s H vs Q E hr h => ?_)
    obtain ⟨M, ⟨p, s5⟩, wd, ha, ⟨hp, hU⟩, q⟩ := h
    cases ha with
    | cons hv ha =>
    cases ha with
    | cons hw ha =>
    cases ha
    rename_i vp v0
    refine ⟨_, pss_cons (ps_set (i := 2) scAfter.nd rfl (.inl rfl) (pe_ix ix_tup (pv 0) pe_int (fun _ _ => rfl)))
      (pss_cons (ps_if (pt_cmpR op_eq (pv 2) pe_str (nomark _)) (pss_one (ps_ret (pe_ifExp (pt_val (pe_call GH (hr.mono (by omega)) rfl gH FH.kp bH .nil pass0 (pa_cons (pe_ix ix_tup (pv 0) pe_int (fun _ _ => rfl)) (pa_cons (pv 1) pa_nil)))) (pe_lst (pa_cons (pv 1) pa_nil)) (pe_lst pa_nil)))) pss_nil)
      (pss_cons (ps_if (pt_cmpR op_eq (pv 2) pe_str (nomark _)) (pss_cons (ps_set (i := 3) scAfter.nd rfl (.inl rfl) (pe_call GP (hr.mono (by omega)) rfl gP FP.kp bP .nil pass0 (pa_cons (pe_ix ix_tup (pv 0) pe_int (fun _ _ => rfl)) pa_nil)))
          (pss_one (ps_ret (pe_lst (pa_cons (pe_op op_catA (pe_op op_catA (pe_slice sl_tupA (pv 1) po_none (po_some (pv 3))) (pe_tup (pa_cons (pe_ix ix_tup (pv 0) pe_int (fun _ _ => rfl)) pa_nil))) (pe_slice sl_tupA (pv 1) (po_some (pe_op op_add (pv 3) pe_int)) po_none)) pa_nil))))) pss_nil)
      (pss_cons (ps_if (pt_cmpR op_eq (pv 2) pe_str (nomark _)) (pss_cons (ps_set (i := 4) scAfter.nd rfl (.inr rfl) (pe_lst pa_nil))
          (pss_cons (ps_for PassesOwn.never rfl (pi_list (pe_ix ix_tup (pv 0) pe_int (fun _ _ => rfl))) (pg_name (i := 5) scAfter.nd rfl (.inl rfl))
            (pss_one (ps_set (i := 4) scAfter.nd rfl (.inr rfl) (pe_op op_catS (pv 4) (pe_lc (own := [("other", 7)]) (g := gName 7) rfl scAfter.nd (pi_list (pe_call GR (hr.mono (by omega)) rfl g F.kp b .nil pass0 (pa_cons (pv 5) (pa_cons (pv 1) pa_nil))))
              (blkOk_by (N := ["policy", "state", "kind", "at", "found", "part", "states", "other"]) (sc := defScope (topS 8)) (by decide +kernel)) (fun _ _ _ _ _ => pg_name (i := 7) scAfter.nd rfl (Or.inl rfl)) (fun _ _ _ _ _ => pts_one (pt_cmpR (op_notInK K (hu65 hr)) (pv 7) (pv 4) (by rfl))) (fun _ _ _ _ _ => pv 7))))))
          (pss_one (ps_ret (pv 4))))) pss_nil)
      (pss_cons (ps_if (pt_cmpR op_eq (pv 2) pe_str (nomark _)) (pss_cons (ps_set (i := 6) scAfter.nd rfl (.inl rfl) (pe_lst (pa_cons (pv 1) pa_nil)))
          (pss_cons (ps_for PassesOwn.never rfl (pi_list (pe_ix ix_tup (pv 0) pe_int (fun _ _ => rfl))) (pg_name (i := 5) scAfter.nd rfl (.inl rfl))
            (pss_one (ps_set (i := 6) scAfter.nd rfl (.inl rfl) (pe_call GA hr rfl gA FA.kp bA .nil pass0 (pa_cons (pv 5) (pa_cons (pv 6) pa_nil))))))
          (pss_one (ps_ret (pv 6))))) pss_nil)
      (pss_one (ps_ret (pe_call GS hr rfl gS FS.kp bS .nil pass0 (pa_cons (pe_ix ix_tup (pv 0) pe_int (fun _ _ => rfl)) (pa_cons (pv 1) pa_nil))))))))), ?_⟩
    have hU : InU s5 := hU
    have l5 : s5.length = 5 := hU.1
    have ok : (Vw.base H M wd).ok H := Same.refl H
    have hs : (Vw.base H M wd).D K H v0 (encS s5) := hw
    have ht : (Vw.base H M wd).D K H vp (tagD (tagP p) (argP p)) := by rw [← encP_tag]; exact hv
    obtain ⟨m0, hm0, o0⟩ := id hp
    -- kind = policy[0]
    refine sq_asg (W := Vw.base H M wd) (K := K) (F := fun d => d = .str (tagP p)) (ev_ixT (ev_var rfl ht) ev_int (atI_nat (j := 0) rfl)) ok fun vk d H1 e r1 dk => ?_
    subst e
    obtain rfl := d_str dk
    have no : ∀ (x : Str) {H2 : Hp} {t1 t2 u : TS} {D : Ends}, (Vw.base H M wd).R H H2 → decide (tagP p = x) = false → (∀ H3, (Vw.base H M wd).R H H3 → u D [some vp, some v0, some (.str (tagP p)), none, none, none, none, none] H3) →
        tSeq (tIfS (tTest (tOp rEq (tVar 2) (tC (.str x)))) t1 tNext) u D [some vp, some v0, some (.str (tagP p)), none, none, none, none, none] H2 := fun x H2 t1 t2 u D r e k =>
      sq_no (W := Vw.base H M wd) (et_testD (ev_is (ev_eqS (K := K) (ev_var rfl (.str _)) ev_str) (by rw [e]))) r.2 fun H3 r3 => k H3 (rtrans r r3)
    have yes : ∀ (x : Str) {H2 : Hp} {t1 u : TS} {D : Ends}, (Vw.base H M wd).R H H2 → decide (tagP p = x) = true → (∀ H3, (Vw.base H M wd).R H H3 → t1 { D with nx := u D } [some vp, some v0, some (.str (tagP p)), none, none, none, none, none] H3) →
        tSeq (tIfS (tTest (tOp rEq (tVar 2) (tC (.str x)))) t1 tNext) u D [some vp, some v0, some (.str (tagP p)), none, none, none, none, none] H2 := fun x H2 t1 u D r e k =>
      sq_yes (W := Vw.base H M wd) (et_testD (ev_is (ev_eqS (K := K) (ev_var rfl (.str _)) ev_str) (by rw [e]))) r.2 fun H3 r3 => k H3 (rtrans r r3)
    cases p with
    | test t =>
      refine yes "test" r1 (dq "test" rfl (by decide +kernel)) fun H2 r2 => ?_
      refine st_ret (W := Vw.base H M wd) (K := K) (F := IsAfter (Den (.test t) s5)) (ev_if (B := fun b => b = holds t s5) (et_BD (ev_call (x := (t, s5)) (ea_c (ev_arg1 rfl (dmono r2 ht)) (ea_c (ev_var rfl (dmono r2 hs)) ea_nil)) ⟨okP'_test hp, hU.1⟩)) (fun e => ?_) (fun e => ?_)) r2.2 fun v d H3 f r3 dv => q v H3 d f r3.2 dv
      · refine ev_imp (ev_lstD (ea_c (ev_var rfl (dmono r2 hs)) ea_nil) (by simp)) fun d e' => ⟨[s5], e', by simp, fun s' => ?_⟩
        rw [Den, ← e]; simp
      · refine ev_imp (ev_lstD ea_nil (by simp)) fun d e' => ⟨[], e', by simp, fun s' => ?_⟩
        rw [Den, ← e]; simp
    | set f5 k5 =>
      have hn := okP'_set hp
      refine no "test" (t2 := tNext) r1 (dq "set" rfl (by decide +kernel)) fun H2 r2 => ?_
      refine yes "set" r2 (dq "set" rfl (by decide +kernel)) fun H2 r2 => ?_
      refine sq_asg (W := Vw.base H M wd) (K := K) (F := fun d => d = .int (f5 : Int)) (ev_call (x := f5) (ea_c (ev_arg1 rfl (dmono r2 ht)) ea_nil) hn.1) r2.2 fun va d H3 e r3 da => ?_
      subst e
      obtain rfl := d_int da
      have r3' := rtrans r2 r3
      have hl : f5 < s5.length := by have := hn.1; have := hU.1; omega
      refine st_ret (W := Vw.base H M wd) (K := K) (F := IsAfter (Den (.set f5 k5) s5)) (ev_imp (ev_lstD (ea_c (d := encS (s5.set f5 k5)) ?_ ea_nil) (by simp)) fun d e' => ⟨[s5.set f5 k5], e', by simp, fun s' => by rw [Den]; simp⟩) r3'.2 fun v d H4 f r4 dv => q v H4 d f r4.2 dv
      have e1 : encS (s5.set f5 k5) = .tuple ((cutD (s5.map .int) none (some (f5 : Int)) ++ [.int k5]) ++ cutD (s5.map .int) (some ((f5 + 1 : Nat) : Int)) none) := by
        rw [cut_to _ (by rw [List.length_map]; omega), cut_from _ (by rw [List.length_map]; omega), ← set_cut s5 f5 k5 hl]
        unfold encS
        rw [List.map_append, List.map_append, List.map_take, List.map_drop]; rfl
      have z1 : (cutD (s5.map PyData.int) none (some (f5 : Int))).length ≤ 5 := by
        rw [cut_to _ (by rw [List.length_map]; omega), List.length_take, List.length_map]; omega
      have z2 : (cutD (s5.map PyData.int) (some ((f5 + 1 : Nat) : Int)) none).length ≤ 5 := by
        rw [cut_from _ (by rw [List.length_map]; omega), List.length_drop, List.length_map]; omega
      rw [e1]
      refine ev_catAD (ev_catAD (ev_slA (ev_var rfl (dmono r3' hs)) eo_none (eo_some (K := K) (ev_var rfl (.int _)))) (ev_tupD (ea_c (ev_arg2 rfl (dmono r3' ht)) ea_nil) (by simp)) (by simp only [List.length_singleton]; omega)) (ev_slA (ev_var rfl (dmono r3' hs)) (eo_some (K := K) ?_) eo_none) (by rw [List.length_append]; simp only [List.length_singleton]; omega)
      exact ev_I0 (gd := fun i j => .int (i + j)) (fun i j H => .int _) (ev_var rfl (.int (f5 : Int))) ev_int fun e1 e2 a1 a2 => ⟨_, _, a1, a2, rfl⟩
    | sum ps =>
      obtain ⟨hl, hok⟩ := okP'_sum hp
      refine no "test" (t2 := tNext) r1 (dq "sum" rfl (by decide +kernel)) fun H2 r2 => ?_
      refine no "set" (t2 := tNext) r2 (dq "sum" rfl (by decide +kernel)) fun H2 r2 => ?_
      refine yes "sum" r2 (dq "sum" rfl (by decide +kernel)) fun H2 r2 => ?_
      refine sq_asg (W := Vw.base H M wd) (K := K) (F := fun d => d = .list []) (ev_lstD ea_nil (by simp)) r2.2 fun vf d H3 e r3 df => ?_
      subst e
      have r3' := rtrans r2 r3
      refine sq_for (W := Vw.base H M wd) (ds := encPs ps) (ev_arg1 rfl (dmono r3' ht)) r3'.2 fun H4 r4 => ?_
      refine ⟨fun i σ' H' => ∃ L vf y5, σ' = [some vp, some v0, some (.str "sum"), none, some vf, y5, none, none] ∧ (Vw.base H M wd).R H4 H' ∧ (Vw.base H M wd).D K H' vf (.list (L.map encS)) ∧ L.Nodup ∧ ∀ s', s' ∈ L ↔ ∃ p ∈ ps.take i, Den p s5 s',
        ⟨[], vf, none, rfl, Vw.refl r4.2, dmono r4 df, List.nodup_nil, fun s' => by simp⟩, fun i σ' H' ⟨_, _, _, _, r, _⟩ => r.1, ?_, ?_⟩
      · rintro i d x σ' H' hd ⟨L, vf, y5, rfl, r5, dL, nd, mL⟩ dx
        rw [encPs_eq, List.getElem?_map] at hd
        cases hpi : ps[i]? with
        | none => rw [hpi] at hd; cases hd
        | some pi =>
        rw [hpi] at hd
        cases hd
        have hpo := hok pi (List.mem_of_getElem? hpi)
        have rr := rtrans r3' (rtrans r4 r5)
        have uL : ∀ z ∈ L, InU z := fun z hz => den_U o0 hU (by rw [Den, denSum_iff]; obtain ⟨p, hp, d⟩ := (mL z).mp hz; exact ⟨p, List.mem_of_mem_take hp, d⟩)
        have kL := few_U nd uL
        refine st_asg (W := Vw.base H M wd) (K := K) (F := fun d => ∃ Ls : List Sta, d = .list ((L ++ Ls.filter fun s => !decide (s ∈ L)).map encS) ∧ Ls.Nodup ∧ ∀ s, s ∈ Ls ↔ Den pi s5 s) (ev_catS (F2 := fun d => ∃ Ls : List Sta, d = .list ((Ls.filter fun s => !decide (s ∈ L)).map encS) ∧ Ls.Nodup ∧ ∀ s, s ∈ Ls ↔ Den pi s5 s) (ev_var rfl dL) ?_ ?_) r5.2 ?_
        · refine ev_lc_src (F := IsAfter (Den pi s5)) (ev_call (x := (pi, s5)) (ea_c (ev_var rfl dx) (ea_c (ev_var rfl (dmono rr hs)) ea_nil)) ⟨hpo, hU⟩) ?_
          rintro vl d H6 ⟨Ls, rfl, nLs, mLs⟩ r6 dl
          refine ev_imp (ev_lc (ds := Ls.map encS) (ev_c dl) (fun _ => rfl) (fun i out => out = ((Ls.take i).filter fun s => !decide (s ∈ L)).map encS) rfl (fun i out e => ?_) (fun i out d pi' hd Dl acc H' z ic dz => ?_)) ?_
          · rw [e, List.length_map]
            have h1 := few_U nLs fun z hz => (by obtain ⟨_, _, oo⟩ := hpo; exact den_U oo hU ((mLs z).mp hz) : InU z)
            have h2 := List.length_filter_le (fun s => !decide (s ∈ L)) (Ls.take i)
            rw [List.length_take] at h2
            rw [sizeLine_eq]; omega
          · rw [List.getElem?_map] at hd
            cases hsi : Ls[i]? with
            | none => rw [hsi] at hd; cases hd
            | some si =>
            rw [hsi] at hd
            cases hd
            refine ⟨fun b => b = !decide (si ∈ L), et_testD (ev_is (ev_notInD (ev_var rfl dz) (ev_var rfl (dp_same ic.sm (dmono r6 dL))) (shaped_S si) (shaped_LS L)) (by rw [any_S])), fun hb => ⟨fun e => e = encS si, ev_var rfl dz, fun e he => ?_⟩, fun hb => ?_⟩
            · rw [pi', he, List.take_add_one, hsi, List.filter_append, List.map_append]
              show _ = _ ++ (List.filter (fun s => !decide (s ∈ L)) [si]).map encS
              rw [List.filter_cons, if_pos hb.symm]; rfl
            · rw [pi', List.take_add_one, hsi, List.filter_append, List.map_append]
              show _ = _ ++ (List.filter (fun s => !decide (s ∈ L)) [si]).map encS
              rw [List.filter_cons, if_neg (by rw [← hb]; exact Bool.false_ne_true)]
              show _ = _ ++ []
              rw [List.append_nil]
          · rintro d ⟨out, rfl, rfl⟩
            exact ⟨Ls, by rw [List.length_map, List.take_length], nLs, mLs⟩
        · rintro e1 e2 rfl ⟨Ls, rfl, nLs, mLs⟩
          refine ⟨_, _, rfl, rfl, ?_, Ls, by rw [List.map_append], nLs, mLs⟩
          have h1 := few_U nLs fun z hz => (by obtain ⟨_, _, oo⟩ := hpo; exact den_U oo hU ((mLs z).mp hz) : InU z)
          have h2 := List.length_filter_le (fun s => !decide (s ∈ L)) Ls
          rw [List.length_map, List.length_map, sizeLine_eq]; omega
        · rintro v d H6 ⟨Ls, rfl, nLs, mLs⟩ r6 dv
          refine ⟨_, v, some x, rfl, rtrans r5 r6, dv, filt_nodup nd nLs, fun s' => ?_⟩
          rw [filt_mem, mL, mLs, List.take_add_one, hpi]
          constructor
          · rintro (⟨z, hz, dz⟩ | h)
            · exact ⟨z, List.mem_append_left _ hz, dz⟩
            · exact ⟨pi, List.mem_append_right _ (by simp), h⟩
          · rintro ⟨z, hz, dz⟩
            rcases List.mem_append.mp hz with hz | hz
            · exact .inl ⟨z, hz, dz⟩
            · have : z = pi := by simpa using hz
              exact .inr (this ▸ dz)
      · rintro σ' H' ⟨L, vf, y5, rfl, r5, dL, nd, mL⟩
        refine ⟨vf, rfl, q vf H' _ ⟨L, rfl, nd, fun s' => ?_⟩ r5.2 dL⟩
        show s' ∈ L ↔ Den (.sum ps) s5 s'
        rw [mL, Den, denSum_iff, encPs_eq, List.length_map, List.take_length]
    | seq ps =>
      obtain ⟨hl, hok⟩ := okP'_seq hp
      refine no "test" (t2 := tNext) r1 (dq "seq" rfl (by decide +kernel)) fun H2 r2 => ?_
      refine no "set" (t2 := tNext) r2 (dq "seq" rfl (by decide +kernel)) fun H2 r2 => ?_
      refine no "sum" (t2 := tNext) r2 (dq "seq" rfl (by decide +kernel)) fun H2 r2 => ?_
      refine yes "seq" r2 (dq "seq" rfl (by decide +kernel)) fun H2 r2 => ?_
      refine sq_asg (W := Vw.base H M wd) (K := K) (F := fun d => d = .list [encS s5]) (ev_lstD (ea_c (ev_var rfl (dmono r2 hs)) ea_nil) (by simp)) r2.2 fun vf d H3 e r3 df => ?_
      subst e
      have r3' := rtrans r2 r3
      refine sq_for (W := Vw.base H M wd) (ds := encPs ps) (ev_arg1 rfl (dmono r3' ht)) r3'.2 fun H4 r4 => ?_
      refine ⟨fun i σ' H' => ∃ L vf y5, σ' = [some vp, some v0, some (.str "seq"), none, none, y5, some vf, none] ∧ (Vw.base H M wd).R H4 H' ∧ (Vw.base H M wd).D K H' vf (.list (L.map encS)) ∧ L.Nodup ∧ (∀ s ∈ L, InU s) ∧ ∀ s', s' ∈ L ↔ DenSeq (ps.take i) s5 s',
        ⟨[s5], vf, none, rfl, Vw.refl r4.2, dmono r4 df, by simp, one_U hU, fun s' => by simp [DenSeq]⟩, fun i σ' H' ⟨_, _, _, _, r, _⟩ => r.1, ?_, ?_⟩
      · rintro i d x σ' H' hd ⟨L, vf, y5, rfl, r5, dL, nd, uL, mL⟩ dx
        rw [encPs_eq, List.getElem?_map] at hd
        cases hpi : ps[i]? with
        | none => rw [hpi] at hd; cases hd
        | some pi =>
        rw [hpi] at hd
        cases hd
        have hpo := hok pi (List.mem_of_getElem? hpi)
        refine st_asg (W := Vw.base H M wd) (K := K) (F := IsAfter (fun s' => ∃ s ∈ L, Den pi s s')) (ev_call (x := (pi, L)) (ea_c (ev_var rfl dx) (ea_c (ev_var rfl dL) ea_nil)) ⟨hpo, uL⟩) r5.2 ?_
        rintro v d H6 ⟨L', rfl, nd', mL'⟩ r6 dv
        refine ⟨L', v, some x, rfl, rtrans r5 r6, dv, nd', fun z hz => ?_, fun s' => ?_⟩
        · obtain ⟨a, ha, d⟩ := (mL' z).mp hz
          obtain ⟨_, _, oo⟩ := hpo
          exact den_U oo (uL a ha) d
        · rw [mL', List.take_add_one, hpi]
          show _ ↔ DenSeq (ps.take i ++ [pi]) s5 s'
          rw [denSeq_snoc]
          exact ⟨fun ⟨a, ha, d⟩ => ⟨a, (mL a).mp ha, d⟩, fun ⟨a, ha, d⟩ => ⟨a, (mL a).mpr ha, d⟩⟩
      · rintro σ' H' ⟨L, vf, y5, rfl, r5, dL, nd, uL, mL⟩
        refine ⟨vf, rfl, q vf H' _ ⟨L, rfl, nd, fun s' => ?_⟩ r5.2 dL⟩
        show s' ∈ L ↔ Den (.seq ps) s5 s'
        rw [mL, Den, encPs_eq, List.length_map, List.take_length]
    | star p =>
      refine no "test" (t2 := tNext) r1 (dq "star" rfl (by decide +kernel)) fun H2 r2 => ?_
      refine no "set" (t2 := tNext) r2 (dq "star" rfl (by decide +kernel)) fun H2 r2 => ?_
      refine no "sum" (t2 := tNext) r2 (dq "star" rfl (by decide +kernel)) fun H2 r2 => ?_
      refine no "seq" (t2 := tNext) r2 (dq "star" rfl (by decide +kernel)) fun H2 r2 => ?_
      refine st_ret (W := Vw.base H M wd) (K := K) (F := IsAfter (Den (.star p) s5)) (ev_imp (ev_call (x := (p, s5)) (ea_c (ev_arg1 rfl (dmono r2 ht)) (ea_c (ev_var rfl (dmono r2 hs)) ea_nil)) ⟨okP'_star hp, hU⟩) fun d ⟨L, e, nd, mL⟩ => ⟨L, e, nd, fun s' => by rw [Den]; exact mL s'⟩) r2.2 fun v d H3 f r3 dv => q v H3 d f r3.2 dv
end
end HB
/-! ## HBNums -/
namespace HB
open PySem PySem.Spec PyProof.Rows L2
theorem scTN : FnScope ["test", "part", "pair"] ["test"] (defScope (topS 10)) := ⟨rfl, rfl, rfl, by decide +kernel, rfl, by decide +kernel, by decide +kernel⟩
theorem scNI : FnScope ["policy", "part", "pair"] ["policy"] (defScope (topS 11)) := ⟨rfl, rfl, rfl, by decide +kernel, rfl, by decide +kernel, by decide +kernel⟩

/-! what a comprehension over two lists has made -/
section
variable {α β : Type} (f : α → List β) (ts : List α)
def flatK (i k : Nat) : List β := (ts.take i).flatMap f ++ ((ts[i]?.map f).getD []).take k
theorem flatK_00 : flatK f ts 0 0 = [] := by simp [flatK]
theorem flatK_next {i : Nat} {t : α} (h : ts[i]? = some t) : flatK f ts (i + 1) 0 = flatK f ts i (f t).length := by
  unfold flatK
  rw [h, List.take_add_one, h]
  simp
theorem flatK_more {i k : Nat} {t : α} {b : β} (h : ts[i]? = some t) (hk : (f t)[k]? = some b) : flatK f ts i (k + 1) = flatK f ts i k ++ [b] := by
  unfold flatK
  rw [h]
  show _ ++ (f t).take (k + 1) = (_ ++ (f t).take k) ++ [b]
  rw [List.take_add_one, hk, List.append_assoc]; rfl
theorem flatK_end : flatK f ts ts.length 0 = ts.flatMap f := by simp [flatK]
theorem flatK_len (i k : Nat) : (flatK f ts i k).length ≤ (ts.flatMap f).length := by
  unfold flatK
  cases h : ts[i]? with
  | none =>
    simp only [Option.map_none, Option.getD_none, List.take_nil, List.append_nil]
    rw [← List.take_append_drop i ts, List.flatMap_append, List.length_append]
    simp [List.take_take]
  | some t =>
    obtain ⟨hi, e⟩ := List.getElem?_eq_some_iff.mp h
    have e2 : ts = ts.take i ++ t :: ts.drop (i + 1) := by
      rw [← e, ← List.drop_eq_getElem_cons hi, List.take_append_drop]
    have e3 : (ts.flatMap f).length = ((ts.take i).flatMap f).length + ((f t).length + ((ts.drop (i + 1)).flatMap f).length) := by
      conv => lhs; rw [e2]
      rw [List.flatMap_append, List.length_append, List.flatMap_cons, List.length_append]
    rw [e3, List.length_append]
    show _ + ((f t).take k).length ≤ _
    rw [List.length_take]
    omega
theorem flat_part {t : α} (h : t ∈ ts) : (f t).length ≤ (ts.flatMap f).length := by
  obtain ⟨i, hi, e⟩ := List.getElem_of_mem h
  have e2 : ts = ts.take i ++ t :: ts.drop (i + 1) := by
    rw [← e, ← List.drop_eq_getElem_cons hi, List.take_append_drop]
  rw [e2, List.flatMap_append, List.length_append, List.flatMap_cons, List.length_append]
  omega
end
abbrev spTN (K : PySem.W.Frag) (n : Nat) : Sp := spA K (fun t : Tst => [encT t]) (fun t => OkT' n t ∧ (numsT t).length ≤ 100000) (fun t d => d = .list ((numsT t).map encN))
abbrev spNI (K : PySem.W.Frag) (n : Nat) : Sp := spA K (fun p : Pol => [encP p]) (fun p => OkP' n p ∧ (nums p).length ≤ 100000) (fun p d => d = .list ((nums p).map encN))
section
variable {W : Vw} {K : PySem.W.Frag} {σ : L2.St} {H : Hp} {tl : TE}
/-- [pair for part in parts for pair in f(part)] -/
theorem ev_flat {α : Type} {enc : α → PyData} {f : α → List (Nat × Int)} {ts : List α} {pre : α → Prop} {E : XK} {j j1 : Nat} (hl : EvD W K tl σ H (.list (ts.map enc))) (hp : ∀ t ∈ ts, pre t) (hz : (ts.flatMap f).length ≤ 100000)
    (hw : ∀ x, wipe ((wipe σ [j, j1]).set j (some x)) [j, j1] = wipe σ [j, j1]) (hw1 : ∀ x y, wipe ((wipe ((wipe σ [j, j1]).set j (some x)) [j1]).set j1 (some y)) [j1] = wipe ((wipe σ [j, j1]).set j (some x)) [j1])
    (hg : ∀ x, ((wipe σ [j, j1]).set j (some x))[j]? = some (some x)) (hg1 : ∀ x y, ((wipe ((wipe σ [j, j1]).set j (some x)) [j1]).set j1 (some y))[j1]? = some (some y)) :
    EvP W K (tLc2 (iList K tl) (gName j) tYes (iList K (tCall (spA K (fun t : α => [enc t]) pre (fun t d => d = .list ((f t).map encN))) [] E (tCons (tVar j) tNil))) (gName j1) tYes (tVar j1) [j, j1] [j1]) σ H (fun r => r = .list ((ts.flatMap f).map encN)) := by
  refine ev_imp (ev_lc2 hl hw hw1 (fun i k out => out = (flatK f ts i k).map encN) (by rw [flatK_00]; rfl) (fun i k out e => ?_) (fun i out d e hd Dl acc H' x ic dx => ?_)) ?_
  · rw [e, List.length_map]
    have := flatK_len f ts i k
    rw [sizeLine_eq]; omega
  · rw [List.getElem?_map] at hd
    cases hti : ts[i]? with
    | none => rw [hti] at hd; cases hd
    | some t =>
    rw [hti] at hd
    cases hd
    refine ⟨(f t).map encN, ev_call (x := t) (ea_c (ev_var (hg x) dx) ea_nil) (hp t (List.mem_of_getElem? hti)), fun out' e' => ?_, fun k out' e acc' H'' y e' he ic' dx' dy => ⟨fun z => z = e, ev_var (hg1 x y) dy, fun r hr => ?_⟩⟩
    · rw [flatK_next f ts hti, e', List.length_map]
    · rw [List.getElem?_map] at he
      cases hk : (f t)[k]? with
      | none => rw [hk] at he; cases he
      | some b =>
      rw [hk] at he
      cases he
      rw [flatK_more f ts hti hk, e', hr, List.map_append]; rfl
  · rintro d ⟨out, rfl, rfl⟩
    rw [List.length_map, flatK_end]
end
theorem inTag {x : Str} {b : Bool} (z : Str) (e : x = z) (h : inV (.str z) [V.str "sum", V.str "seq"] = b) : (if false = true then !inV (dV (.str x)) ([PyData.str "sum", .str "seq"].map dV) else inV (dV (.str x)) ([PyData.str "sum", .str "seq"].map dV)) = b := by
  subst e
  rw [if_neg Bool.false_ne_true]
  exact h
section
variable {P : Program} {w : World} {K : PySem.W.Frag} {mg : Str → Option Value} {base : Heap}
theorem ok_tn {f : Addr} {fd : FuncData} (F : Fun K "_test_numbers" "_test_numbers" (topS 10) f fd) (g : mg "_test_numbers" = some (.ref f)) (b : Binds K fd ["test"] []) : ∀ n, FnOk P w K mg base CX0 n f fd ["test"] (spTN K n)
  | 0 => fn_dead fun vs H Q E ⟨M, x, _, _, ⟨⟨m, hm, _⟩, _⟩, _⟩ => by omega
  | n + 1 => by
    have GS := ok_tn F g b n
    refine F.ok scTN (spA_len fun _ => rfl) (fun cdv A outer s H vs Q E hr h => ?_)
    obtain ⟨M, t, wd, ha, ⟨hp, hz⟩, q⟩ := h
    cases ha with
    | cons hv ha =>
    cases ha
    rename_i vt
    refine ⟨_, pss_cons (ps_if (pt_cmpR op_eq (pe_ix ix_tup (pv 0) pe_int (fun _ _ => rfl)) pe_str (nomark _))
        (pss_one (ps_ret (pe_lst (pa_cons (pe_tup (pa_cons (pe_ix ix_tup (pv 0) pe_int (fun _ _ => rfl)) (pa_cons (pe_ix ix_tup (pv 0) pe_int (fun _ _ => rfl)) pa_nil))) pa_nil)))) pss_nil)
      (pss_cons (ps_if (pt_cmpR op_eq (pe_ix ix_tup (pv 0) pe_int (fun _ _ => rfl)) pe_str (nomark _))
        (pss_one (ps_ret (pe_call GS hr rfl g F.kp b .nil pass0 (pa_cons (pe_ix ix_tup (pv 0) pe_int (fun _ _ => rfl)) pa_nil)))) pss_nil)
      (pss_one (ps_ret (pe_lc2 (own := [("part", 1), ("pair", 2)]) (vs1 := [2]) (g := gName 1) (g1 := gName 2) rfl scTN.nd (pi_list (pe_ix ix_tup (pv 0) pe_int (fun _ _ => rfl)))
          (blkOk_by (N := ["test", "part", "pair"]) (sc := defScope (topS 10)) (by decide +kernel)) (by decide) (fun _ _ _ _ _ => pg_name (i := 1) scTN.nd rfl (Or.inl rfl)) (fun _ _ _ _ _ => pts_nil)
          (fun _ _ _ _ _ => pi_listK K (pe_call GS hr rfl g F.kp b .nil pass0 (pa_cons (pv 1) pa_nil))) (fun _ _ _ _ _ => pg_name (i := 2) scTN.nd rfl (Or.inl rfl)) (fun _ _ _ _ _ => pts_nil) (fun _ _ _ _ _ => pv 2))))), ?_⟩
    have ok : (Vw.base H M wd).ok H := Same.refl H
    have ht : (Vw.base H M wd).D K H vt (tagD (tagT t) (argT t)) := by rw [← encT_tag]; exact hv
    have lists : ∀ (x : Str) (ts : List Tst), tagT t = x → argT t = [.list (encTs ts)] → decide (x = "is") = false → decide (x = "not") = false → (∀ t ∈ ts, OkT' n t) → numsT t = numsTs ts → False ∨ ∃ ts : List Tst, argT t = [.list (encTs ts)] ∧ decide (tagT t = "is") = false ∧ decide (tagT t = "not") = false ∧ (∀ t ∈ ts, OkT' n t) ∧ numsT t = numsTs ts :=
      fun x ts e1 e2 e3 e4 e5 e6 => .inr ⟨ts, e2, by rw [e1]; exact e3, by rw [e1]; exact e4, e5, e6⟩
    have kinds : (∃ f5 k5, t = .is f5 k5) ∨ (∃ t', t = .no t') ∨ ∃ ts : List Tst, argT t = [.list (encTs ts)] ∧ decide (tagT t = "is") = false ∧ decide (tagT t = "not") = false ∧ (∀ t ∈ ts, OkT' n t) ∧ numsT t = numsTs ts := by
      cases t with
      | is f5 k5 => exact .inl ⟨f5, k5, rfl⟩
      | no t' => exact .inr (.inl ⟨t', rfl⟩)
      | all ts => exact .inr (.inr ⟨ts, rfl, dq "all" rfl (by decide +kernel), dq "all" rfl (by decide +kernel), (okT'_all hp).2, by rw [numsT]⟩)
      | any ts => exact .inr (.inr ⟨ts, rfl, dq "any" rfl (by decide +kernel), dq "any" rfl (by decide +kernel), (okT'_any hp).2, by rw [numsT]⟩)
    rcases kinds with ⟨f5, k5, rfl⟩ | ⟨t', rfl⟩ | ⟨ts, ea, e1, e2, hok, hn⟩
    · refine sq_yes (et_tag rfl ht (dq "is" rfl (by decide +kernel))) ok fun H1 r1 => ?_
      refine st_ret (W := Vw.base H M wd) (K := K) (F := fun d => d = .list [encN (f5, k5)]) (ev_lstD (ea_c (ev_tupD (ea_c (ev_arg1 rfl (dmono r1 ht)) (ea_c (ev_arg2 rfl (dmono r1 ht)) ea_nil)) (by simp)) ea_nil) (by simp)) r1.2 fun v d H2 e r2 dv => q v H2 d (show d = PyData.list ((numsT (.is f5 k5)).map encN) by rw [e, numsT]; rfl) r2.2 dv
    · refine sq_no (et_tag rfl ht (dq "not" rfl (by decide +kernel))) ok fun H1 r1 => ?_
      refine sq_yes (et_tag rfl (dmono r1 ht) (dq "not" rfl (by decide +kernel))) r1.2 fun H2 r2 => ?_
      have r2' := rtrans r1 r2
      exact st_ret (W := Vw.base H M wd) (K := K) (ev_call (x := t') (ea_c (ev_arg1 rfl (dmono r2' ht)) ea_nil) ⟨okT'_no hp, by rw [numsT] at hz; exact hz⟩) r2.2 fun v d H3 e r3 dv => q v H3 d (show d = PyData.list ((numsT (.no t')).map encN) by rw [e, numsT]) r3.2 dv
    · refine sq_no (et_tag rfl ht e1) ok fun H1 r1 => ?_
      refine sq_no (et_tag rfl (dmono r1 ht) e2) r1.2 fun H2 r2 => ?_
      have r2' := rtrans r1 r2
      rw [ea] at ht
      rw [hn, numsTs_eq] at hz
      rw [encTs_eq] at ht
      exact st_ret (W := Vw.base H M wd) (K := K) (ev_flat (enc := encT) (f := numsT) (ts := ts) (pre := fun t => OkT' n t ∧ (numsT t).length ≤ 100000) (ev_arg1 rfl (dmono r2' ht)) (fun t h => ⟨hok t h, Nat.le_trans (flat_part numsT ts h) hz⟩) hz (fun _ => rfl) (fun _ _ => rfl) (fun _ => rfl) (fun _ _ => rfl)) r2.2
        fun v d H3 e r3 dv => q v H3 d (show d = PyData.list ((numsT t).map encN) by rw [e, hn, numsTs_eq]) r3.2 dv
theorem ok_ni {f fT : Addr} {fd fdT : FuncData} (F : Fun K "numbers_in" "numbers_in" (topS 11) f fd) (g : mg "numbers_in" = some (.ref f)) (b : Binds K fd ["policy"] [])
    (FT : Fun K "_test_numbers" "_test_numbers" (topS 10) fT fdT) (GT : FnOk P w K mg base CX0 3 fT fdT ["test"] (spTN K 3)) (gT : mg "_test_numbers" = some (.ref fT)) (bT : Binds K fdT ["test"] []) : ∀ n, FnOk P w K mg base CX0 (n + 3) f fd ["policy"] (spNI K n)
  | 0 => fn_dead fun vs H Q E ⟨M, x, _, _, ⟨⟨m, hm, _⟩, _⟩, _⟩ => by omega
  | n + 1 => by
    have GS := ok_ni F g b FT GT gT bT n
    refine F.ok scNI (spA_len fun _ => rfl) (fun cdv A outer s H vs Q E hr h => ?_)
    obtain ⟨M, p, wd, ha, ⟨hp, hz⟩, q⟩ := h
    cases ha with
    | cons hv ha =>
    cases ha
    rename_i vp
    refine ⟨_, pss_cons (ps_if (pt_cmpR op_eq (pe_ix ix_tup (pv 0) pe_int (fun _ _ => rfl)) pe_str (nomark _))
        (pss_one (ps_ret (pe_call GT (hr.mono (by omega)) rfl gT FT.kp bT .nil pass0 (pa_cons (pe_ix ix_tup (pv 0) pe_int (fun _ _ => rfl)) pa_nil)))) pss_nil)
      (pss_cons (ps_if (pt_cmpR op_eq (pe_ix ix_tup (pv 0) pe_int (fun _ _ => rfl)) pe_str (nomark _))
        (pss_one (ps_ret (pe_lst (pa_cons (pe_tup (pa_cons (pe_ix ix_tup (pv 0) pe_int (fun _ _ => rfl)) (pa_cons (pe_ix ix_tup (pv 0) pe_int (fun _ _ => rfl)) pa_nil))) pa_nil)))) pss_nil)
      (pss_cons (ps_if (pt_cmpR op_in_seq (pe_ix ix_tup (pv 0) pe_int (fun _ _ => rfl)) (pe_tup (pa_cons pe_str (pa_cons pe_str pa_nil))) (by rfl))
        (pss_one (ps_ret (pe_lc2 (own := [("part", 1), ("pair", 2)]) (vs1 := [2]) (g := gName 1) (g1 := gName 2) rfl scNI.nd (pi_list (pe_ix ix_tup (pv 0) pe_int (fun _ _ => rfl)))
          (blkOk_by (N := ["policy", "part", "pair"]) (sc := defScope (topS 11)) (by decide +kernel)) (by decide) (fun _ _ _ _ _ => pg_name (i := 1) scNI.nd rfl (Or.inl rfl)) (fun _ _ _ _ _ => pts_nil)
          (fun _ _ _ _ _ => pi_listK K (pe_call GS hr rfl g F.kp b .nil pass0 (pa_cons (pv 1) pa_nil))) (fun _ _ _ _ _ => pg_name (i := 2) scNI.nd rfl (Or.inl rfl)) (fun _ _ _ _ _ => pts_nil) (fun _ _ _ _ _ => pv 2)))) pss_nil)
      (pss_one (ps_ret (pe_call GS hr rfl g F.kp b .nil pass0 (pa_cons (pe_ix ix_tup (pv 0) pe_int (fun _ _ => rfl)) pa_nil)))))), ?_⟩
    have ok : (Vw.base H M wd).ok H := Same.refl H
    have ht : (Vw.base H M wd).D K H vp (tagD (tagP p) (argP p)) := by rw [← encP_tag]; exact hv
    have ein : ∀ {H1 : Hp} (bb : Bool), (Vw.base H M wd).R H H1 → (if false = true then !inV (dV (.str (tagP p))) ([PyData.str "sum", .str "seq"].map dV) else inV (dV (.str (tagP p))) ([PyData.str "sum", .str "seq"].map dV)) = bb →
        EvB (Vw.base H M wd) (tTest (tOp (rIn K false) (tOp (rIxT K) (tVar 0) (tC (.int 0))) (tTup (tCons (tC (.str "sum")) (tCons (tC (.str "seq")) tNil))))) [some vp, none, none] H1 bb := fun bb r e =>
      et_testD (ev_is (ev_in (neg := false) (d := .str (tagP p)) (ds := [.str "sum", .str "seq"]) (ev_ixT (ev_var rfl (dmono r ht)) ev_int (atI_nat (j := 0) rfl)) (ev_imp (ev_tupD (ea_c ev_str (ea_c ev_str ea_nil)) (by simp)) fun _ e => .inr e) rfl rfl) (by rw [e]))
    have kinds : (∃ t, p = .test t) ∨ (∃ f5 k5, p = .set f5 k5) ∨ (∃ p', p = .star p') ∨ ∃ ps : List Pol, argP p = [.list (encPs ps)] ∧ decide (tagP p = "test") = false ∧ decide (tagP p = "set") = false ∧
        (if false = true then !inV (dV (.str (tagP p))) ([PyData.str "sum", .str "seq"].map dV) else inV (dV (.str (tagP p))) ([PyData.str "sum", .str "seq"].map dV)) = true ∧ (∀ t ∈ ps, OkP' n t) ∧ nums p = numsL ps := by
      cases p with
      | test t => exact .inl ⟨t, rfl⟩
      | set f5 k5 => exact .inr (.inl ⟨f5, k5, rfl⟩)
      | star p' => exact .inr (.inr (.inl ⟨p', rfl⟩))
      | sum ps => exact .inr (.inr (.inr ⟨ps, rfl, dq "sum" rfl (by decide +kernel), dq "sum" rfl (by decide +kernel), inTag "sum" rfl (by decide +kernel), (okP'_sum hp).2, by rw [nums]⟩))
      | seq ps => exact .inr (.inr (.inr ⟨ps, rfl, dq "seq" rfl (by decide +kernel), dq "seq" rfl (by decide +kernel), inTag "seq" rfl (by decide +kernel), (okP'_seq hp).2, by rw [nums]⟩))
    rcases kinds with ⟨t, rfl⟩ | ⟨f5, k5, rfl⟩ | ⟨p', rfl⟩ | ⟨ps, ea, e1, e2, e3, hok, hn⟩
    · refine sq_yes (et_tag rfl ht (dq "test" rfl (by decide +kernel))) ok fun H1 r1 => ?_
      exact st_ret (W := Vw.base H M wd) (K := K) (ev_call (x := t) (ea_c (ev_arg1 rfl (dmono r1 ht)) ea_nil) ⟨okP'_test hp, by rw [nums] at hz; exact hz⟩) r1.2 fun v d H3 e r3 dv => q v H3 d (show d = PyData.list ((nums (.test t)).map encN) by rw [e, nums]) r3.2 dv
    · refine sq_no (et_tag rfl ht (dq "set" rfl (by decide +kernel))) ok fun H1 r1 => ?_
      refine sq_yes (et_tag rfl (dmono r1 ht) (dq "set" rfl (by decide +kernel))) r1.2 fun H2 r2 => ?_
      have r2' := rtrans r1 r2
      exact st_ret (W := Vw.base H M wd) (K := K) (F := fun d => d = .list [encN (f5, k5)]) (ev_lstD (ea_c (ev_tupD (ea_c (ev_arg1 rfl (dmono r2' ht)) (ea_c (ev_arg2 rfl (dmono r2' ht)) ea_nil)) (by simp)) ea_nil) (by simp)) r2.2 fun v d H2 e r2 dv => q v H2 d (show d = PyData.list ((nums (.set f5 k5)).map encN) by rw [e, nums]; rfl) r2.2 dv
    · refine sq_no (et_tag rfl ht (dq "star" rfl (by decide +kernel))) ok fun H1 r1 => ?_
      refine sq_no (et_tag rfl (dmono r1 ht) (dq "star" rfl (by decide +kernel))) r1.2 fun H2 r2 => ?_
      have r2' := rtrans r1 r2
      refine sq_pass (ein false r2' (inTag "star" rfl (by decide +kernel))) r2.2 fun H3 r3 => ?_
      have r3' := rtrans r2' r3
      exact st_ret (W := Vw.base H M wd) (K := K) (F := fun d => d = .list ((nums p').map encN)) (ev_call (x := p') (ea_c (ev_arg1 rfl (dmono r3' ht)) ea_nil) ⟨okP'_star hp, by rw [nums] at hz; exact hz⟩) r3.2 fun v d H3 e r3 dv => q v H3 d (show d = PyData.list ((nums (.star p')).map encN) by rw [e, nums]) r3.2 dv
    · refine sq_no (et_tag rfl ht e1) ok fun H1 r1 => ?_
      refine sq_no (et_tag rfl (dmono r1 ht) e2) r1.2 fun H2 r2 => ?_
      have r2' := rtrans r1 r2
      refine sq_yes (ein true r2' e3) r2.2 fun H3 r3 => ?_
      have r3' := rtrans r2' r3
      rw [ea] at ht
      rw [hn, numsL_eq] at hz
      rw [encPs_eq] at ht
      exact st_ret (W := Vw.base H M wd) (K := K) (ev_flat (enc := encP) (f := nums) (ts := ps) (pre := fun t => OkP' n t ∧ (nums t).length ≤ 100000) (ev_arg1 rfl (dmono r3' ht)) (fun t h => ⟨hok t h, Nat.le_trans (flat_part nums ps h) hz⟩) hz (fun _ => rfl) (fun _ _ => rfl) (fun _ => rfl) (fun _ _ => rfl)) r3.2
        fun v d H3 e r3 dv => q v H3 d (show d = PyData.list ((nums p).map encN) by rw [e, hn, numsL_eq]) r3.2 dv
end
end HB
/-! ## HBSort -/
/-! sorted(..) of states, of a set of states; len(set(..)) -/
namespace HB
open PySem PySem.Spec PyProof.Rows L2

/-! ### the order -/
def leS (a b : Sta) : Bool := !decide (b < a)
def sortS (L : List Sta) : List Sta := L.mergeSort leS
theorem lt_S (x y : Sta) : PySem.W.dataLt (encS x) (encS y) = decide (x < y) := by
  unfold encS
  rw [PySem.W.dataLt_tuple]
  exact PySem.W.dataLt_ints x y
theorem le_enc {β : Type} (k : β → Sta) : PySem.W.dataLe false (fun b => encS (k b)) = fun a b => leS (k a) (k b) := by
  rw [PySem.W.dataLe_eq]
  funext a b
  show (!PySem.W.dataLt (encS (k b)) (encS (k a))) = leS (k a) (k b)
  rw [lt_S]; rfl
theorem leS_iff {a b : Sta} : leS a b = true ↔ a ≤ b := by
  unfold leS
  rw [Bool.not_eq_true', decide_eq_false_iff_not]
  exact List.not_lt
theorem leS_trans (a b c : Sta) (h : leS a b = true) (k : leS b c = true) : leS a c = true := leS_iff.mpr (List.le_trans (leS_iff.mp h) (leS_iff.mp k))
theorem leS_total (a b : Sta) : (leS a b || leS b a) = true := by
  rw [Bool.or_eq_true, leS_iff, leS_iff]
  exact List.le_total a b
theorem leS_anti {a b : Sta} (h : leS a b = true) (k : leS b a = true) : a = b := List.le_antisymm (leS_iff.mp h) (leS_iff.mp k)
theorem sortS_perm (L : List Sta) : (sortS L).Perm L := List.mergeSort_perm L leS
theorem sortS_pw (L : List Sta) : (sortS L).Pairwise fun a b => leS a b = true := List.pairwise_mergeSort leS_trans leS_total L
theorem sorted_eq : ∀ {L M : List Sta}, L.Pairwise (fun a b => leS a b = true) → M.Pairwise (fun a b => leS a b = true) → L.Perm M → L = M
  | [], M, _, _, p => (List.nil_perm.mp p).symm
  | a :: L, [], _, _, p => by have := p.length_eq; simp at this
  | a :: L, b :: M, hL, hM, p => by
    obtain ⟨h1, h2⟩ := List.pairwise_cons.mp hL
    obtain ⟨k1, k2⟩ := List.pairwise_cons.mp hM
    have e : a = b := by
      have ha : a ∈ b :: M := p.mem_iff.mp List.mem_cons_self
      have hb : b ∈ a :: L := p.mem_iff.mpr List.mem_cons_self
      rcases List.mem_cons.mp ha with e | ha
      · exact e
      · rcases List.mem_cons.mp hb with e | hb
        · exact e.symm
        · exact leS_anti (h1 b hb) (k1 a ha)
    subst e
    rw [sorted_eq h2 k2 (p.cons_inv)]
theorem sortS_congr {L M : List Sta} (p : L.Perm M) : sortS L = sortS M := sorted_eq (sortS_pw L) (sortS_pw M) ((sortS_perm L).trans (p.trans (sortS_perm M).symm))
theorem sortS_ext {L M : List Sta} (hL : L.Nodup) (hM : M.Nodup) (h : ∀ s, s ∈ L ↔ s ∈ M) : sortS L = sortS M := sortS_congr ((List.perm_ext_iff_of_nodup hL hM).mpr h)
theorem sortS_mem {L : List Sta} {s : Sta} : s ∈ sortS L ↔ s ∈ L := (sortS_perm L).mem_iff
theorem sortS_nodup {L : List Sta} (h : L.Nodup) : (sortS L).Nodup := (sortS_perm L).nodup_iff.mpr h
theorem sortS_len (L : List Sta) : (sortS L).length = L.length := (sortS_perm L).length_eq
theorem sortS_eq_iff {L M : List Sta} (hL : L.Nodup) (hM : M.Nodup) : sortS L = sortS M ↔ ∀ s, s ∈ L ↔ s ∈ M :=
  ⟨fun e s => by rw [← sortS_mem (L := L), e, sortS_mem], sortS_ext hL hM⟩

/-! ### what the sort asks -/
theorem alike_S (s t : Sta) : PySem.W.alike (encS s) (encS t) = true := by
  unfold encS
  simp only [PySem.W.alike]
  exact PySem.W.alike_ints s t
theorem nonempty_S {s : Sta} (h : s ≠ []) : ∃ x r, encS s = .tuple (x :: r) := by
  cases s with
  | nil => exact absurd rfl h
  | cons a s => exact ⟨_, _, rfl⟩
section
variable {X : Cx} {pins : List (Addr × Obj)} {σ : L2.St} {H : Hp} {s : Shared}
theorem each_zip : ∀ {xs : List V} {its : List Value} {L : List Sta}, Vals xs its → DpAll X.K H xs (L.map encS) → PySem.W.EachIs (fun (v : Value) (b : V × Sta) => RelV b.1 v) its (xs.zip L)
  | _, _, [], .nil, _ => .nil
  | _, _, _ :: _, .nil, h => by cases h
  | _, _, [], .cons _ _, h => by cases h
  | _, _, _ :: L, .cons r t, h => by
    cases h with
    | cons _ k => exact .cons r (each_zip t k)
theorem each_reads (I : Inv X pins σ H s) : ∀ {xs : List V} {its : List Value} {L : List Sta}, Vals xs its → DpAll X.K H xs (L.map encS) → PySem.W.EachIs (fun (v : Value) (b : V × Sta) => ∃ as, Reads s.heap v (encS b.2) as) its (xs.zip L)
  | _, _, [], .nil, _ => .nil
  | _, _, _ :: _, .nil, h => by cases h
  | _, _, [], .cons _ _, h => by cases h
  | _, _, _ :: L, .cons r t, h => by
    cases h with
    | cons d k => exact .cons (Dp.reads I _ _ _ d r) (each_reads I t k)
theorem vals_each : ∀ {its : List Value} {zs : List (V × Sta)}, PySem.W.EachIs (fun (v : Value) (b : V × Sta) => RelV b.1 v) its zs → Vals (zs.map Prod.fst) its
  | _, _, .nil => .nil
  | _, _, .cons h k => .cons h (vals_each k)
end
section
variable {X : Cx}
/-- sorted(xs), xs a list of states -/
def rSortS (K : PySem.W.Frag) : List V → Hp → VK → Prop := fun vs H Q => ∃ (a : Addr) (xs : List V) (L : List Sta), vs = [.ref a] ∧ SqL K H a xs ∧ DpAll K H xs (L.map encS) ∧ (∀ s ∈ L, s ≠ []) ∧
  ∀ (zs : List (V × Sta)) p, zs.Perm (xs.zip L) → zs.map Prod.snd = sortS L → H p = none → Q (.ref p) (upd H p (.lst (zs.map Prod.fst)))
theorem cr_sortS (hu : X.A.units + 65 < cLine) : CallR X (.builtin "sorted") (rSortS X.K) := by
  intro pins s σ H vs us Q I r ⟨a, xs, L, e, hs, hd, hne, q⟩
  subst e
  obtain ⟨its, rv, hl, hz⟩ := I.list hs
  rw [Vals.ref1 r]
  have lz : (xs.zip L).length = xs.length := by rw [List.length_zip, dps_len hd, List.length_map]; omega
  refine PySem.W.sorted_data (β := V × Sta) (R := fun v b => RelV b.1 v) (enc := fun b => encS b.2) hl.isList (each_zip rv hd) (each_reads I rv hd) (PySem.W.AllAlike.of fun _ _ => alike_S _ _) (.inl fun d hd' => ?_) (by rw [lz]; exact hz) (fun b _ => by show X.A.units + 2 + (encS b.2).depth < cLine; rw [dep_S]; omega) fun out hlen he => ?_
  · obtain ⟨b, hb, rfl⟩ := List.mem_map.mp hd'
    exact nonempty_S (hne b.2 (List.of_mem_zip hb).2)
  · rw [le_enc (fun b : V × Sta => b.2)] at he
    generalize hzs : (xs.zip L).mergeSort (fun a b => leS a.2 b.2) = zs at he
    have pm : zs.Perm (xs.zip L) := by rw [← hzs]; exact List.mergeSort_perm _ _
    have ez : zs.map Prod.snd = sortS L := by
      rw [← hzs, PySem.W.sort_maps (s := leS) Prod.snd fun _ _ _ _ => rfl, List.map_snd_zip (by rw [dps_len hd, List.length_map]; exact Nat.le_refl _)]; rfl
    obtain ⟨ep, he'⟩ := PyProof.Rows.sortedAll_at s.heap its out.toArray
    have hlen2 : (zs.map Prod.fst).length ≤ sizeLine := by rw [List.length_map, pm.length_eq, lz]; exact hz
    exact ⟨.ref _, upd H (s.heap.objs.size + 1) (.lst (zs.map Prod.fst)), I.laid (t' := s.toks) (fun _ _ => PyProof.Rows.sortedAll_old) (Nat.le_succ _) ⟨hlen2, out, ep, vals_each he, by simpa using he'⟩, rfl, q zs _ pm ez (I.hok.fresh (Nat.le_succ _))⟩

/-! ### sets -/
structure SetG0 (P : Program) (w : World) (h : Heap) (a : Addr) (L : List (Addr × List Int)) : Prop where
  ex : ∃ es ep t, (∃ o, h.get? a = some o ∧ o.ExactSet ∧ o.data = .set es ep t) ∧ es.toList = rowsOf P w L ∧ TabG t (L.map fun p => thash P w p.2) ∧ (L.map (·.2)).Nodup ∧ t.plain = true ∧ (w.params.followText "set-order" = true ∨ t.led = true) ∧ L.length * 5 < t.mask * 3 ∧ t.mask ≤ 4095
def SetGO (P : Program) (w : World) (a : Addr) (L : List (Addr × List Int)) : HO := .ext fun h => SetG0 P w h a L
theorem SetG.bare {P : Program} {w : World} {h : Heap} {a : Addr} {L : List (Addr × List Int)} {es : Array (Int × Value)} {ep : Nat} {t : SetTable} (R : SetG P w h a L es ep t) : SetG0 P w h a L := ⟨es, ep, t, R.obj, R.rows, R.tab, R.dif, R.plain, R.led, R.room, R.cap⟩
theorem SetG0.full {P : Program} {w : World} {h : Heap} {a : Addr} {L : List (Addr × List Int)} (R : SetG0 P w h a L) (k : ∀ p ∈ L, IsT P w h p.2 p.1) : ∃ es ep t, SetG P w h a L es ep t := by
  obtain ⟨es, ep, t, h1, h2, h3, h4, h5, h6, h7, h8⟩ := R.ex
  exact ⟨es, ep, t, h1, h2, h3, h4, k, h5, h6, h7, h8⟩
theorem setGO_ok {P : Program} {w : World} {H : Hp} {h : Heap} {a : Addr} {L : List (Addr × List Int)} (R : SetG0 P w h a L) : ObjOk P w H h a (SetGO P w a L) := by
  obtain ⟨es, ep, t, ⟨o, go, r⟩, q⟩ := id R.ex
  refine ⟨R, ⟨o, go⟩, fun h1 h2 p k => ?_⟩
  obtain ⟨es', ep', t', ⟨o', go', r'⟩, q'⟩ := p.ex
  exact ⟨es', ep', t', ⟨o', k o' go', r'⟩, q'⟩
/-- set(xs), xs a list of tuples of ints -/
def rSetG (K : PySem.W.Frag) (P : Program) (w : World) : List V → Hp → VK → Prop := fun vs H Q => ∃ (l : Addr) (ks : List (Addr × List Int)), vs = [V.ref l] ∧ SqL K H l (ks.map fun p => V.ref p.1) ∧ (∀ p ∈ ks, SqT K H p.1 (p.2.map V.int)) ∧ Few ks ∧
  ∀ a M, H a = none → (∀ p ∈ M, p ∈ ks) → (∀ p ∈ ks, p.2 ∈ M.map (·.2)) → (M.map (·.2)).Nodup → Q (.ref a) (upd H a (SetGO P w a M))
theorem cr_setG (hc : X.calm = true) (hu : X.A.units + 65 < cLine) : CallR X (.type "set") (rSetG X.K X.prog X.w) := by
  intro pins s σ H vs us Q I r ⟨l, ks, e, hl, hk, few, q⟩
  subst e
  rw [Vals.ref1 r]
  obtain ⟨its, rv, pl, _⟩ := I.list hl
  refine call_set_g (P := X.prog) (w := X.w) ks (I.ok.hd hc) pl.isList (by simpa using refs_of_vals rv) (fun p hp => I.isT (hk p hp)) few (by omega) fun h' tk L es ep t R g k => ?_
  exact ⟨.ref s.heap.objs.size, _, I.laid (t' := tk) k (Nat.le_refl _) (setGO_ok R.bare), rfl, q _ L (I.hok.fresh (Nat.le_refl _)) (fun p hp => List.mem_of_mem_take (g.sub p hp)) (fun p hp => g.all p (by rw [List.take_length]; exact hp)) R.dif⟩
/-- sorted(set) -/
def rSortG (K : PySem.W.Frag) (P : Program) (w : World) : List V → Hp → VK → Prop := fun vs H Q => ∃ (a : Addr) (M : List (Addr × List Int)), vs = [V.ref a] ∧ H a = some (SetGO P w a M) ∧ (∀ p ∈ M, SqT K H p.1 (p.2.map V.int)) ∧ (∀ p ∈ M, p.2 ≠ []) ∧
  ∀ (M' : List (Addr × List Int)) p, M'.Perm M → M'.map (·.2) = sortS (M.map (·.2)) → H p = none → Q (.ref p) (upd H p (.lst (M'.map fun q => V.ref q.1)))
theorem reads_T {P : Program} {w : World} {h : Heap} {k : List Int} {b : Addr} (x : IsT P w h k b) : Reads h (.ref b) (encS k) [] := by
  obtain ⟨o, items, n, go, hc, hd, hi⟩ := x
  have hr : ∀ {k : List Int} {vs : List Value}, ItemsAre (intKind P w) k vs → ReadsAll h vs (k.map .int) [] := by
    intro k vs hi
    induction hi with
    | nil => exact .nil
    | cons h1 _ ih =>
      obtain ⟨t, rfl⟩ := Value.isInt_shape h1
      exact .cons (.int _ t) ih
  exact .tuple go hc hd (hr hi)
theorem each_refs {P : Program} {w : World} {h : Heap} : ∀ M : List (Addr × List Int), (∀ p ∈ M, IsT P w h p.2 p.1) →
    PySem.W.EachIs (fun (v : Value) (b : Addr × List Int) => v = .ref b.1) (M.map fun p => Value.ref p.1) M ∧ ∀ a', (∀ p ∈ M, p.1 ≠ a') → PySem.W.EachIs (fun (v : Value) (b : Addr × List Int) => ∃ as, Reads h v (encS b.2) as ∧ a' ∉ as) (M.map fun p => Value.ref p.1) M
  | [], _ => ⟨.nil, fun _ _ => .nil⟩
  | p :: M, k => by
    obtain ⟨e1, e2⟩ := each_refs M fun q hq => k q (List.mem_cons_of_mem _ hq)
    exact ⟨.cons rfl e1, fun a' ha => .cons ⟨_, reads_T (k p List.mem_cons_self), by simp⟩ (e2 a' fun q hq => ha q (List.mem_cons_of_mem _ hq))⟩
theorem refs_each : ∀ {its : List Value} {M : List (Addr × List Int)}, PySem.W.EachIs (fun (v : Value) (b : Addr × List Int) => v = .ref b.1) its M → its = M.map fun p => Value.ref p.1
  | _, _, .nil => rfl
  | _, _, .cons h k => by rw [h, refs_each k]; rfl
/-- values that are the addresses of M's pairs, in some order -/
theorem order_of : ∀ {vs : List Value} {M : List (Addr × List Int)}, vs.Perm (M.map fun p => Value.ref p.1) → ∃ M1 : List (Addr × List Int), vs = M1.map (fun p => Value.ref p.1) ∧ M1.Perm M
  | [], M, p => by
    have : M = [] := by simpa using p.length_eq.symm
    exact ⟨[], rfl, by rw [this]⟩
  | v :: vs, M, p => by
    obtain ⟨m, hm, e⟩ := List.mem_map.mp (p.mem_iff.mp List.mem_cons_self)
    have pe := List.perm_cons_erase hm
    have p2 : vs.Perm ((M.erase m).map fun p => Value.ref p.1) := by
      have q := p.trans (pe.map fun p => Value.ref p.1)
      rw [List.map_cons, e] at q
      exact q.cons_inv
    obtain ⟨M1, e1, q1⟩ := order_of p2
    exact ⟨m :: M1, by rw [List.map_cons, e, e1], (q1.cons m).trans pe.symm⟩
theorem cr_sortG (hc : X.calm = true) (hu : X.A.units + 65 < cLine) : CallR X (.builtin "sorted") (rSortG X.K X.prog X.w) := by
  intro pins s σ H vs us Q I r ⟨a, M, e, ha, hk, hne, q⟩
  subst e
  have R0 : SetG0 X.prog X.w s.heap a M := (I.hok a _ ha).1
  obtain ⟨es, ep, t, R⟩ := R0.full fun p hp => I.isT (hk p hp)
  obtain ⟨o, go, ex, dat⟩ := R.obj
  have cnt := R.count
  have room := R.room
  have cap := R.cap
  rw [Vals.ref1 r]
  refine Calls.call_function_entry kind_sorted plain_sorted entry_sorted (args_sorted1 _) ?_
  unfold Builtin.«sorted»
  refine wpAny_bind (m := checkCount "sorted" 1 1 _) (wpAny_pure ?_)
  refine wpAny_bind (collect_set (A := X.A.in1) (I.ok.hd hc) ⟨o, go, ex.1, dat⟩ R.fit (by unfold scanBound; omega) R.tab.up R.led fun s1 vs k1 hz g1 o1 pm => ?_)
  have es2 : es.toList.map (·.2) = M.map fun q => Value.ref q.1 := by
    rw [R.rows, rowsOf, List.map_map]; rfl
  rw [es2] at pm
  obtain ⟨M1, rfl, pM1⟩ := order_of pm
  have l1 : M1.length = M.length := pM1.length_eq
  refine wpAny_bind (wpAny_newList ?_ (by rw [List.length_map, l1, sizeLine_eq]; omega))
  have hoL : (s1.heap.push (seqObj "list" (M1.map fun q => Value.ref q.1).toArray 0)).get? s1.heap.objs.size = some (seqObj "list" (M1.map fun q => Value.ref q.1).toArray 0) := Heap.get?_push_size _ rfl
  have tk : ∀ q ∈ M1, IsT X.prog X.w (s1.heap.push (seqObj "list" (M1.map fun q => Value.ref q.1).toArray 0)) q.2 q.1 := fun q hq => isT_keep (R.tups q (pM1.mem_iff.mp hq)) fun b u e => Heap.get?_push_of_some _ (k1 b u e)
  have old : ∀ q ∈ M1, q.1 ≠ s1.heap.objs.size := fun q hq => by
    obtain ⟨o', _, _, g', _⟩ := R.tups q (pM1.mem_iff.mp hq)
    exact Nat.ne_of_lt (Nat.lt_of_lt_of_le (Heap.lt_size g') hz)
  obtain ⟨e1, e2⟩ := each_refs M1 tk
  refine wpAny_bind (wpAny_holding (PySem.W.list_sort_data (β := Addr × List Int) (R := fun v b => v = .ref b.1) (enc := fun b => encS b.2) (s := { s1 with heap := s1.heap.push (seqObj "list" (M1.map fun q => Value.ref q.1).toArray 0) }) hoL e1 (e2 _ old) (PySem.W.AllAlike.of fun _ _ => alike_S _ _) (.inl fun d hd' => ?_) (by rw [l1, sizeLine_eq]; omega) (fun b _ => by show X.A.units + 1 + 1 + (encS b.2).depth < cLine; rw [dep_S]; omega) fun out hlen he => ?_))
  · obtain ⟨b, hb, rfl⟩ := List.mem_map.mp hd'
    exact nonempty_S (hne b (pM1.mem_iff.mp hb))
  · rw [le_enc (fun b : Addr × List Int => b.2)] at he
    generalize hzs : M1.mergeSort (fun a b => leS a.2 b.2) = M2 at he
    have pm2 : M2.Perm M1 := by rw [← hzs]; exact List.mergeSort_perm _ _
    have ez : M2.map (·.2) = sortS (M.map (·.2)) := by
      rw [← hzs, PySem.W.sort_maps (s := leS) (fun b : Addr × List Int => b.2) fun _ _ _ _ => rfl]
      exact sortS_congr (pM1.map _)
    obtain rfl := refs_each he
    obtain ⟨c, hcc⟩ := sortedHeap_at (vs := M1.map fun q => Value.ref q.1) (out := (M2.map fun p => Value.ref p.1).toArray) hoL
    have hlen2 : (M2.map fun q => V.ref q.1).length ≤ sizeLine := by rw [List.length_map, pm2.length_eq, l1, sizeLine_eq]; omega
    have hn : H s1.heap.objs.size = none := I.hok.fresh hz
    have keep : ∀ b u, s.heap.get? b = some u → (sortedHeap (s1.heap.push (seqObj "list" (M1.map fun q => Value.ref q.1).toArray 0)) s1.heap.objs.size (M1.map fun q => Value.ref q.1) (M2.map fun p => Value.ref p.1).toArray).get? b = some u := fun b u e => by
      have z := k1 b u e
      have lt := Heap.lt_size z
      rw [sortedHeap_old (Nat.ne_of_lt lt) (by rw [size_push']; exact Nat.lt_succ_of_lt lt)]
      exact Heap.get?_push_of_some _ z
    refine wpAny_pure ⟨.ref s1.heap.objs.size, rfl, .ref s1.heap.objs.size, upd H s1.heap.objs.size (.lst (M2.map fun q => V.ref q.1)), ?_, rfl, q M2 _ (pm2.trans pM1) ez hn⟩
    have J : Inv X pins σ (upd H s1.heap.objs.size (.lst (M2.map fun q => V.ref q.1))) { s with heap := sortedHeap (s1.heap.push (seqObj "list" (M1.map fun q => Value.ref q.1).toArray 0)) s1.heap.objs.size (M1.map fun q => Value.ref q.1) (M2.map fun p => Value.ref p.1).toArray, gens := s1.gens, drawn := s1.drawn, toks := s1.toks } :=
      I.call (ch := []) (Un.laid keep hz hn) (I.hok.laid keep hz ⟨hlen2, M2.map fun q => Value.ref q.1, c, vals_of_refs M2, hcc⟩) (by rw [g1]; exact I.bare) (fun _ z => nomatch z)
    obtain ⟨hp1, gg, dd, tt, oo⟩ := s1
    obtain rfl : oo = s.os := o1
    exact J
/-- len(set) -/
def rLenG (P : Program) (w : World) : List V → Hp → VK → Prop := fun vs H Q => ∃ (a : Addr) (M : List (Addr × List Int)), vs = [V.ref a] ∧ H a = some (SetGO P w a M) ∧ Q (.int (M.length : Nat)) H
theorem cr_lenG : CallR X (.builtin "len") (rLenG X.prog X.w) := by
  intro pins s σ H vs us Q I r ⟨a, M, e, ha, q⟩
  subst e
  have R0 : SetG0 X.prog X.w s.heap a M := (I.hok a _ ha).1
  obtain ⟨es, ep, t, ⟨o, go, ex, dat⟩, rows, tab, _, _, _, room, cap⟩ := R0.ex
  have cnt : es.size = M.length := by simpa [rowsOf] using congrArg List.length rows
  have fit : t.fits es.size = true := by
    have e1 := tab.many
    rw [List.length_map] at e1
    unfold SetTable.fits SetTable.fill
    rw [tab.nodum, Bool.and_eq_true, beq_iff_eq, decide_eq_true_eq]
    exact ⟨by omega, by show t.place.size + 0 ≤ t.mask; omega⟩
  rw [Vals.ref1 r]
  exact call_len_set go ex dat fit (by rw [cnt]; omega) ⟨.int (M.length : Nat), H, I.tok _, ⟨_, by rw [cnt]⟩, q⟩
end
end HB
/-! ## HBInts -/
/-! set(list of ints), sorted of it -/
namespace HB
open PySem PySem.Spec PyProof.Rows L2
section
variable {P : Program} {w : World} {A : Around} {E : Value → Shared → Prop} {s : Shared}
set_option maxHeartbeats 8000000 in
/-- set(xs), ints -/
theorem call_set_i {l : Addr} {items : Array Value} (ns : List Int) {Q : Value → Shared → Prop} (hh : A.handled = none) (hl : s.heap.IsList l items) (hit : IntsAre items.toList ns) (hb : ns.length + 1 < scanBound)
    (h : ∀ (h' : Heap) (tk c : Nat), SetR w h' s.heap.objs.size (fun j => decide (j ∈ ns)) c → (∀ b o, s.heap.get? b = some o → h'.get? b = some o) → Q (.ref s.heap.objs.size) { s with heap := h', toks := tk }) :
    wpAny (model P w) A (call (.type "set") [.ref l]) Q E s := by
  have isz : items.size = ns.length := by
    have q := IntsAre.length hit
    rw [Array.length_toList] at q
    exact q
  obtain ⟨c, tl, hmro⟩ := F.called_set.mro
  have hmade := F.called_set.made
  have hsub := F.called_set.sub
  refine wpAny_call (codeAny_of_tree ?_)
  show wpAny _ _ (callAny (.type "set") _) _ _ _
  refine wpAny_pure ⟨Code.quiet_builtin _ (by decide +kernel), codeAny_builtin F.entry_type_call ?_⟩
  rw [Around.under_plain (weight_type_call_type "set" [.ref l] []) rfl]
  have h1 := F.called_set.notType
  have h2 := F.called_set.canCreate
  have hct := F.typeCall_set_1 (.ref l)
  repeat (any_goals (first | assumption | wp_step))
  refine codeAny_mono (code_set_led1 (.ref l) (E := E) (Q₁ := fun obj s₁ => obj = .ref s.heap.objs.size ∧ s₁ = { s with heap := s.heap.push (emptySet w) }) ⟨rfl, rfl⟩) fun r s₁ hr => ?_
  match r, hr with
  | .error e, hr => exact hr
  | .ok .next, hr => exact hr.elim
  | .ok .brk, hr => exact hr.elim
  | .ok .cont, hr => exact hr.elim
  | .ok (.ret obj), hr =>
    obtain ⟨rfl, rfl⟩ := hr
    have hS : (s.heap.push (emptySet w)).get? s.heap.objs.size = some (emptySet w) := Heap.get?_push_size _ rfl
    have hT : Shared.TypeIs { s with heap := s.heap.push (emptySet w) } (.ref s.heap.objs.size) "set" := ⟨_, hS, rfl⟩
    have hli := F.called_set.init.lookup
    have hbi := F.called_set.init.bind (.ref s.heap.objs.size)
    repeat (any_goals (first | assumption | wp_step))
    refine codeAny_mono (codeAny_call_builtin (R := wants (fun r s₂ => r = .none ∧ ∃ h' tk c, s₂ = { s with heap := h', toks := tk } ∧ SetR w h' s.heap.objs.size (fun j => decide (j ∈ ns)) c ∧ (∀ b o, s.heap.get? b = some o → h'.get? b = some o)) E) F.called_set.init.plain F.entry_set_init (check_set_init_1 hT ?_)) fun r₂ s₂ hr₂ => ?_
    · obtain ⟨⟨ocls, odict, odata, oslots⟩, hol, hcl, nl, hdl⟩ := hl
      simp only at hcl hdl
      subst hcl; subst hdl
      have hol' : (s.heap.push (emptySet w)).get? l = some { cls := .type "list", dict := odict, data := .seq items nl, slots := oslots } := Heap.get?_push_of_some _ hol
      have hsls := F.sub_list_set
      have hslf := F.sub_list_frozenset
      have hne : (Value.type "list" == Value.type "dict") = false := by decide
      have hl1 : (s.heap.push (emptySet w)).IsList l items := ⟨_, hol', rfl, nl, rfl⟩
      unfold Builtin.«set.__init__» noKeywords Builtin.Frozenset.updateFrom
      generalize hPI : pyIter = PI
      wp_walk
      subst hPI
      refine wpAny_pyIter_list hl1 ?_
      refine wpAny_bind (wpAny_runValue ?_)
      have lS : l < s.heap.objs.size := Heap.lt_size hol
      have h3 : A.in1.in1.in1.handled = none := by simp [hh]
      have zp : (s.heap.push (emptySet w)).objs.size = s.heap.objs.size + 1 := Heap.size_push ..
      have nI : l ≠ (s.heap.push (emptySet w)).objs.size := by rw [zp]; exact Nat.ne_of_lt (Nat.lt_succ_of_lt lS)
      have nS : s.heap.objs.size ∉ [(s.heap.push (emptySet w)).objs.size, l] := by
        rw [zp]
        simp only [List.mem_cons, List.not_mem_nil, or_false, not_or]
        exact ⟨Nat.ne_of_lt (Nat.lt_succ_self _), Nat.ne_of_gt lS⟩
      have vals : ∀ (i : Nat) (v : Value), items[i]? = some v → ∃ k t, ns[i]? = some k ∧ v = .int k t := fun i v hv => by
        have hi : i < ns.length := by rw [← isz]; exact (Array.getElem?_eq_some_iff.mp hv).1
        obtain ⟨t, e⟩ := PyProof.Rows.IntsAre.int_at hit i v (by rw [Array.getElem?_toList]; exact hv)
        refine ⟨ns[i], t, List.getElem?_eq_getElem hi, ?_⟩
        rw [e, List.getD_eq_getElem?_getD, List.getElem?_eq_getElem hi] <;> rfl
      refine set_update_ints ((Walks.list h3 _ l nI items).toS) s.heap.objs.size nS ns isz hb vals (items.size - 0) 0 _ (by omega) (Nat.zero_le _)
        ⟨⟨_, Heap.get?_push_size _ rfl, rfl, rfl⟩, (hl1.push _)⟩ ⟨0, Nat.le_refl 0, setR_new_at (Heap.get?_push_of_some _ hS)⟩ fun s' c' m _ hS' => ?_
      have kp : ∀ b o, s.heap.get? b = some o → s'.heap.get? b = some o := fun b o e => by
        have b0 : b < s.heap.objs.size := Heap.lt_size e
        refine m.heap b o ?_ (Heap.get?_push_of_some _ (Heap.get?_push_of_some _ e))
        rw [zp]
        simp only [List.mem_cons, List.not_mem_nil, or_false, not_or]
        exact ⟨Nat.ne_of_lt b0, Nat.ne_of_lt (Nat.lt_succ_of_lt b0)⟩
      obtain ⟨h', g2, d', tk', os'⟩ := s'
      obtain rfl : g2 = s.gens := m.gens
      obtain rfl : d' = s.drawn := m.drawn
      obtain rfl : os' = s.os := m.os
      show wpAny _ _ _ _ _ _
      refine wpAny_pure ?_
      show wpAny _ _ (ret Value.none) _ _ _
      exact wpAny_pure ⟨rfl, h', tk', c', rfl, hS', kp⟩
    · match r₂, hr₂ with
      | .error e, hr₂ => exact hr₂
      | .ok .next, hr₂ => exact hr₂.elim
      | .ok .brk, hr₂ => exact hr₂.elim
      | .ok .cont, hr₂ => exact hr₂.elim
      | .ok (.ret r), hr₂ =>
        obtain ⟨rfl, h', tk, c', rfl, hS', hk'⟩ := hr₂
        repeat (any_goals (first | assumption | wp_step))
        exact h _ _ _ hS' hk'
end
section
variable {X : Cx}
/-- set(xs), xs a list of ints -/
def rSetI (K : PySem.W.Frag) (w : World) : List V → Hp → VK → Prop := fun vs H Q => ∃ (l : Addr) (ns : List Int), vs = [V.ref l] ∧ SqL K H l (ns.map V.int) ∧ ns.length ≤ 4000 ∧
  ∀ a n, H a = none → (∀ M : List Int, M.Nodup → (∀ k, k ∈ M ↔ k ∈ ns) → n = M.length) → Q (.ref a) (upd H a (SetO w a (fun j => decide (j ∈ ns)) n))
theorem setR_count {h : Heap} {a : Addr} {ns : List Int} {n : Nat} (R : SetR X.w h a (fun j => decide (j ∈ ns)) n) : ∀ M : List Int, M.Nodup → (∀ k, k ∈ M ↔ k ∈ ns) → n = M.length := fun M nd m => by
  obtain ⟨o, es, ep, t, ho, hex, hd, g, nd2, hm, hb, hf, hn, hr, hl⟩ := R
  have p : M.Perm (es.toList.map keyOf) := (List.perm_ext_iff_of_nodup nd nd2).mpr fun k => by
    rw [m, ← hm k, decide_eq_true_iff]
  rw [p.length_eq, List.length_map, Array.length_toList]
  exact hn.symm
theorem cr_setI (hc : X.calm = true) : CallR X (.type "set") (rSetI X.K X.w) := by
  intro pins s σ H vs us Q I r ⟨l, ns, e, hl, hz, q⟩
  subst e
  rw [Vals.ref1 r]
  obtain ⟨its, rv, pl, _⟩ := I.list hl
  refine call_set_i (P := X.prog) (w := X.w) ns (I.ok.hd hc) pl.isList (by simpa using rv.ints) (by unfold scanBound; omega) fun h' tk c R k => ?_
  exact ⟨.ref s.heap.objs.size, _, I.laid (t' := tk) k (Nat.le_refl _) (setO_new R), rfl, q _ c (I.hok.fresh (Nat.le_refl _)) (setR_count R)⟩
end

/-! ### the ints in order, each once -/
def sortI (L : List Int) : List Int := (L.eraseDups).mergeSort (fun a b => decide (a ≤ b))
theorem lt_eq : ∀ {L M : List Int}, L.Pairwise (· < ·) → M.Pairwise (· < ·) → (∀ k, k ∈ L ↔ k ∈ M) → L = M
  | [], [], _, _, _ => rfl
  | [], b :: M, _, _, m => absurd ((m b).mpr List.mem_cons_self) (by simp)
  | a :: L, [], _, _, m => absurd ((m a).mp List.mem_cons_self) (by simp)
  | a :: L, b :: M, hL, hM, m => by
    obtain ⟨h1, h2⟩ := List.pairwise_cons.mp hL
    obtain ⟨k1, k2⟩ := List.pairwise_cons.mp hM
    have e : a = b := by
      rcases List.mem_cons.mp ((m a).mp List.mem_cons_self) with e | ha
      · exact e
      · rcases List.mem_cons.mp ((m b).mpr List.mem_cons_self) with e | hb
        · exact e.symm
        · have := h1 b hb
          have := k1 a ha
          omega
    subst e
    rw [lt_eq h2 k2 fun k => ?_]
    constructor
    · intro hk
      rcases List.mem_cons.mp ((m k).mp (List.mem_cons_of_mem _ hk)) with e | z
      · have := h1 k hk; omega
      · exact z
    · intro hk
      rcases List.mem_cons.mp ((m k).mpr (List.mem_cons_of_mem _ hk)) with e | z
      · have := k1 k hk; omega
      · exact z
theorem le_lt {L : List Int} (h : L.Pairwise (· ≤ ·)) (n : L.Nodup) : L.Pairwise (· < ·) := lt_of_le_nodup L h n

/-! ### as data -/
section
variable {W : Vw} {K : PySem.W.Frag} {σ : L2.St} {H : Hp} {ta : TE} {F G : PyData → Prop} {w : World} {P : Program}
/-- sorted(set(xs)), ints -/
theorem ev_sortedSetI (h : EvP W K ta σ H F) (k : ∀ d, F d → ∃ ns : List Int, d = .list (ns.map .int) ∧ ns.length ≤ 4000 ∧ (∀ x ∈ ns, 0 ≤ x ∧ x ≤ 15) ∧ ∀ M : List Int, M.Pairwise (· < ·) → (∀ x, x ∈ M ↔ x ∈ ns) → G (.list (M.map .int))) :
    EvP W K (tCB (rSortedSet w) (tCons (tCB (rSetI K w) (tCons ta tNil)) tNil)) σ H G := fun H0 a0 Q q => h H0 a0 _ fun v H1 d f a1 dv => by
  obtain ⟨ns, rfl, hz, hb, g⟩ := k d f
  obtain ⟨p, xs, rfl, hs, hd⟩ := d_lst dv
  obtain rfl := dps_intsInv hd
  refine ⟨p, ns, rfl, off_sub.seq hs, hz, fun a n hn hc => ?_⟩
  have r1 := Vw.newR (o := SetO w a (fun j => decide (j ∈ ns)) n) a1.2 hn
  have hn17 : n < 64 := by
    -- the members, each once
    have nd : ((((List.range 16).map fun i : Nat => (i : Int))).filter fun x => decide (x ∈ ns)).Nodup := List.Pairwise.filter _ (by decide)
    have e := hc _ nd fun x => by
      rw [List.mem_filter, decide_eq_true_iff]
      constructor
      · exact fun z => z.2
      · refine fun z => ⟨?_, z⟩
        have := hb x z
        exact List.mem_map.mpr ⟨x.toNat, List.mem_range.mpr (by omega), by omega⟩
    have l1 := List.length_filter_le (fun x => decide (x ∈ ns)) ((List.range 16).map fun i : Nat => (i : Int))
    rw [List.length_map, List.length_range] at l1
    omega
  refine ⟨a, _, n, rfl, upd_same, hn17, fun M p2 hM hm _ hp2 => ?_⟩
  have r2 := Vw.newR (o := .lst (M.map V.int)) r1.2 hp2
  refine q _ _ _ (g M hM fun x => by rw [hm x, decide_eq_true_iff]) (rtrans a1 (rtrans r1 r2)) (Vw.newL r1.2 hp2 (dps_ints M))
/-- sorted(xs), ints -/
theorem ev_sortedI (h : EvP W K ta σ H F) (k : ∀ d, F d → ∃ ns : List Int, d = .list (ns.map .int) ∧ ∀ M : List Int, M.Perm ns → M.Pairwise (· ≤ ·) → G (.list (M.map .int))) :
    EvP W K (tCB (rSortedI K) (tCons ta tNil)) σ H G := fun H0 a0 Q q => h H0 a0 _ fun v H1 d f a1 dv => by
  obtain ⟨ns, rfl, g⟩ := k d f
  obtain ⟨p, xs, rfl, hs, hd⟩ := d_lst dv
  obtain rfl := dps_intsInv hd
  exact ⟨p, ns, rfl, off_sub.seq hs, fun M p2 h1 h2 hp2 => q _ _ _ (g M h1 h2) (rtrans a1 (Vw.newR a1.2 hp2)) (Vw.newL a1.2 hp2 (dps_ints M))⟩
/-- sorted(xs), states -/
theorem ev_sortedS (h : EvP W K ta σ H F) (k : ∀ d, F d → ∃ L : List Sta, d = .list (L.map encS) ∧ (∀ s ∈ L, s ≠ []) ∧ G (.list ((sortS L).map encS))) :
    EvP W K (tCB (rSortS K) (tCons ta tNil)) σ H G := fun H0 a0 Q q => h H0 a0 _ fun v H1 d f a1 dv => by
  obtain ⟨L, rfl, hne, g⟩ := k d f
  obtain ⟨p, xs, rfl, hs, hd⟩ := d_lst dv
  refine ⟨p, xs, L, rfl, off_sub.seq hs, Vw.outs hd, hne, fun zs p2 pm ez hp2 => ?_⟩
  have hl : xs.length = (L.map encS).length := dps_len hd
  have hd2 : W.Ds K H1 (zs.map Prod.fst) ((sortS L).map encS) := by
    rw [← ez]
    have all : ∀ z ∈ zs, W.D K H1 z.1 (encS z.2) := fun z hz => by
      have hz2 := pm.mem_iff.mp hz
      obtain ⟨i, hi, e⟩ := List.getElem_of_mem hz2
      rw [List.getElem_zip] at e
      have hi1 : i < xs.length := by rw [List.length_zip] at hi; omega
      have hi2 : i < L.length := by rw [List.length_zip] at hi; omega
      obtain ⟨d, e1, e2⟩ := dps_at' hd (List.getElem?_eq_getElem hi1)
      rw [List.getElem?_map, List.getElem?_eq_getElem hi2] at e1
      cases e1
      rw [← e]; exact e2
    clear pm ez
    induction zs with
    | nil => exact .nil
    | cons z zs ih => exact .cons (all z List.mem_cons_self) (ih fun y hy => all y (List.mem_cons_of_mem _ hy))
  exact q _ _ _ g (rtrans a1 (Vw.newR a1.2 hp2)) (Vw.newL a1.2 hp2 hd2)
/-- states by their addresses -/
theorem keys_of {H : Hp} : ∀ {xs : List V} {L : List Sta}, DpAll K H xs (L.map encS) → ∃ ks : List (Addr × List Int), xs = ks.map (fun p => V.ref p.1) ∧ ks.map (·.2) = L ∧ ∀ p ∈ ks, SqT K H p.1 (p.2.map V.int)
  | [], [], _ => ⟨[], rfl, rfl, fun _ h => by cases h⟩
  | _ :: _, [], h => by cases h
  | [], _ :: _, h => by cases h
  | x :: xs, s :: L, .cons h k => by
    obtain ⟨ks, e1, e2, e3⟩ := keys_of k
    obtain ⟨a, ys, rfl, hs, hd⟩ := d_tup h
    obtain rfl := dps_intsInv hd
    exact ⟨(a, s) :: ks, by rw [e1]; rfl, by rw [List.map_cons, e2], fun p hp => by
      rcases List.mem_cons.mp hp with e | hp
      · rw [e]; exact hs
      · exact e3 p hp⟩
def FewS (L : List Sta) : Prop := ∀ M : List Sta, M.Nodup → (∀ s ∈ M, s ∈ L) → M.length ≤ 1000
theorem states_of {H : Hp} : ∀ {M : List (Addr × List Int)}, (∀ p ∈ M, SqT K H p.1 (p.2.map V.int)) → DpAll K H (M.map fun p => V.ref p.1) ((M.map (·.2)).map encS)
  | [], _ => .nil
  | p :: M, h => .cons (.tup (h p List.mem_cons_self) (dps_ints _)) (states_of fun q hq => h q (List.mem_cons_of_mem _ hq))
theorem ev_setG {r : List V → Hp → VK → Prop} (h : EvP W K ta σ H F) (k : ∀ d, F d → ∃ L : List Sta, d = .list (L.map encS) ∧ FewS L ∧
      ∀ (a : Addr) (M : List (Addr × List Int)) H1, W.ok H1 → H1 a = some (SetGO P w a M) → (M.map (·.2)).Nodup → (∀ s, s ∈ M.map (·.2) ↔ s ∈ L) → (∀ p ∈ M, SqT K (off W.M H1) p.1 (p.2.map V.int)) → ∀ Q : VK, (∀ v H2 d, G d → W.R H1 H2 → W.D K H2 v d → Q v H2) → r [.ref a] H1 Q) :
    EvP W K (tCB r (tCons (tCB (rSetG K P w) (tCons ta tNil)) tNil)) σ H G := fun H0 a0 Q q => h H0 a0 _ fun v H1 d f a1 dv => by
  obtain ⟨L, rfl, few, g⟩ := k d f
  obtain ⟨p, xs, rfl, hs, hd⟩ := d_lst dv
  obtain ⟨ks, rfl, rfl, hk⟩ := keys_of hd
  refine ⟨p, ks, rfl, off_sub.seq hs, fun p hp => same_t off_sub (hk p hp), few, fun a M hn hsub hall hnd => ?_⟩
  have r1 := Vw.newR (o := SetGO P w a M) a1.2 hn
  have m : ∀ s, s ∈ M.map (·.2) ↔ s ∈ ks.map (·.2) := fun s => by
    constructor
    · intro hs
      obtain ⟨p, hp, rfl⟩ := List.mem_map.mp hs
      exact List.mem_map.mpr ⟨p, hsub p hp, rfl⟩
    · intro hs
      obtain ⟨p, hp, rfl⟩ := List.mem_map.mp hs
      exact hall p hp
  exact g a M _ r1.2 upd_same hnd m (fun p hp => same_t r1.1 (hk p (hsub p hp))) Q fun v H2 d gd r2 dv => q v H2 d gd (rtrans a1 (rtrans r1 r2)) dv
/-- sorted(set(xs)), states -/
theorem ev_sortedSetG (h : EvP W K ta σ H F) (k : ∀ d, F d → ∃ L : List Sta, d = .list (L.map encS) ∧ FewS L ∧ (∀ s ∈ L, s ≠ []) ∧ ∀ M : List Sta, M.Nodup → (∀ s, s ∈ M ↔ s ∈ L) → G (.list ((sortS M).map encS))) :
    EvP W K (tCB (rSortG K P w) (tCons (tCB (rSetG K P w) (tCons ta tNil)) tNil)) σ H G := ev_setG h fun d f => by
  obtain ⟨L, rfl, few, hne, g⟩ := k d f
  refine ⟨L, rfl, few, fun a M H1 ok ha nd m hk Q q => ⟨a, M, rfl, ha, fun p hp => same_t off_sub (hk p hp), fun p hp => hne _ ((m p.2).mp (List.mem_map.mpr ⟨p, hp, rfl⟩)), fun M' p pm ez hp => ?_⟩⟩
  refine q _ _ _ (g _ nd m) (Vw.newR ok hp) (Vw.newL ok hp ?_)
  rw [← ez]
  exact states_of fun q hq => hk q (pm.mem_iff.mp hq)
/-- len(set(xs)), states -/
theorem ev_lenSetG (h : EvP W K ta σ H F) (k : ∀ d, F d → ∃ L : List Sta, d = .list (L.map encS) ∧ FewS L ∧ ∀ M : List Sta, M.Nodup → (∀ s, s ∈ M ↔ s ∈ L) → G (.int (M.length : Nat))) :
    EvP W K (tCB (rLenG P w) (tCons (tCB (rSetG K P w) (tCons ta tNil)) tNil)) σ H G := ev_setG h fun d f => by
  obtain ⟨L, rfl, few, g⟩ := k d f
  refine ⟨L, rfl, few, fun a M H1 ok ha nd m hk Q q => ⟨a, M, rfl, ha, ?_⟩⟩
  have e := g _ nd m
  rw [List.length_map] at e
  exact q _ _ _ e (Vw.refl ok) (.int _)
end
end HB
/-! ## HBDc2 -/
/-! {k: v for a in xs for b in ys if ..} -/
namespace HB
open PySem PySem.Spec PyProof.Rows L2

abbrev dcE (kx vx t0 i0 t1 i1 : Expr) (ifs1 : List Expr) (scope : Scope) (pos : Pos) : Expr := .DictComp kx vx [⟨t0, i0, [], 0⟩, ⟨t1, i1, ifs1, 0⟩] scope pos
section
variable {prog : Program} {w : World} {A : Around} {R : Result → Shared → Prop} {s : Shared} {kx vx t0 i0 t1 i1 : Expr} {ifs1 : List Expr} {scope : Scope} {pos : Pos} {it : Value} {D : Addr} {env : Env}
/-- what goes out of a turn by an exception -/
abbrev oops (prog : Program) (w : World) (A : Around) (env : Env) (R : Result → Shared → Prop) : Value → Shared → Prop := notedBy (model prog w) A env fun e s' => R (.error e) s'
theorem dc_outer (hs : ∀ x, foldedSetIterable i1 env x = pure x) (J : Nat → Shared → Prop)
    (turn : ∀ n s, J n s → wpAny (model prog w) A (pyNext it) (fun r sa => match r with
      | none => R (.ok .next) sa
      | some v => wpAny (model prog w) A (letOwnedTupleGo t0 it v) (fun _ sb => wpAny (model prog w) A (assign t0 env v) (fun _ sc =>
          wpAny (model prog w) A (eval i1 env) (fun x sd => wpAny (model prog w) A (pyIter x) (fun it1 se =>
            codeAny (model prog w) A (.compStart (dcE kx vx t0 i0 t1 i1 ifs1 scope pos) 1 it1 (.ref D) env) (fun r s' => match r with
                | .ok _ => ∃ m, m < n ∧ J m s'
                | .error _ => False) se) (oops prog w A env R) sd) (oops prog w A env R) sc) (oops prog w A env R) sb) (oops prog w A env R) sa) (oops prog w A env R) s)
    (n : Nat) (h : J n s) : codeAny (model prog w) A (.compLoop (dcE kx vx t0 i0 t1 i1 ifs1 scope pos) 0 it (.ref D) env) R s := by
  refine codeAny_loop rfl J (fun n s hJ => ?_) n h
  have e : compTurn (dcE kx vx t0 i0 t1 i1 ifs1 scope pos) 0 it (.ref D) env = (do
      standAt i0.pos
      match ← pyNext it with
      | none => pure (.done .next)
      | some v =>
        letOwnedTupleGo t0 it v
        assign t0 env v
        let mut ok := true
        for c in ([] : List Expr) do
          if ok then ok ← isTrue c env (eval c env)
        if ok then
          let x ← eval i1 env
          standAt i1.pos
          let x ← foldedSetIterable i1 env x
          let _ ← runOwn (.compStart (dcE kx vx t0 i0 t1 i1 ifs1 scope pos) 1 (← holding [x] (pyIter x)) (.ref D) env) env
        again (.compLoop (dcE kx vx t0 i0 t1 i1 ifs1 scope pos) 0 it (.ref D) env)) := by rfl
  show wpAny _ A ((compTurn (dcE kx vx t0 i0 t1 i1 ifs1 scope pos) 0 it (.ref D) env).onRaise (fun x => do noteFrame x env; theTreesLotGoes x)) _ _ s
  refine wpAny_noted ?_
  rw [e]
  refine wpAny_bind (wpAny_standAt (wpAny_bind (wpAny_mono (turn n s hJ) (fun r sa ha => ?_) fun _ _ z => z)))
  match r, ha with
  | none, ha => exact wpAny_pure ha
  | some v, ha =>
    refine wpAny_bind (wpAny_mono ha (fun _ sb hb => ?_) fun _ _ z => z)
    refine wpAny_bind (wpAny_mono hb (fun _ sc hc => ?_) fun _ _ z => z)
    refine wpAny_bind (wpAny_tests_nil ?_)
    refine wpAny_bind (wpAny_mono hc (fun x sd hd => ?_) fun _ _ z => z)
    refine wpAny_bind (wpAny_standAt (wpAny_bind (wpAny_of_eq (hs x) (wpAny_bind (wpAny_holding (wpAny_mono hd (fun it1 se he => ?_) fun _ _ z => z))))))
    refine wpAny_bind (wpAny_runOwn ?_)
    rw [Around.mark_none]
    refine codeAny_mono he fun r s' hr => ?_
    match r, hr with
    | .ok f, hr =>
      first
        | exact wpAny_pure ⟨rfl, hr⟩
        | exact wpAny_bind (wpAny_pure (wpAny_pure ⟨rfl, hr⟩))
    | .error e, hr => exact hr.elim
theorem dc_inner (J : Nat → Shared → Prop)
    (turn : ∀ n s, J n s → wpAny (model prog w) A (pyNext it) (fun r sa => match r with
      | none => R (.ok .next) sa
      | some v => wpAny (model prog w) A (letOwnedTupleGo t1 it v) (fun _ sb => wpAny (model prog w) A (assign t1 env v) (fun _ sc =>
          wpAny (model prog w) A (forIn ifs1 true fun c r => if r = true then do let ok ← isTrue c env (eval c env); pure (ForInStep.yield ok) else pure (ForInStep.yield r)) (fun ok sd =>
            if ok = true then wpAny (model prog w) A (eval kx env) (fun kv se => wpAny (model prog w) A (eval vx env) (fun vv sf =>
              wpAny (model prog w) A (dictSet D kv vv) (fun _ sg => ∃ m, m < n ∧ J m sg) (oops prog w A env R) sf) (oops prog w A env R) se) (oops prog w A env R) sd
            else ∃ m, m < n ∧ J m sd) (oops prog w A env R) sc) (oops prog w A env R) sb) (oops prog w A env R) sa) (oops prog w A env R) s)
    (n : Nat) (h : J n s) : codeAny (model prog w) A (.compLoop (dcE kx vx t0 i0 t1 i1 ifs1 scope pos) 1 it (.ref D) env) R s := by
  refine codeAny_loop rfl J (fun n s hJ => ?_) n h
  have e : compTurn (dcE kx vx t0 i0 t1 i1 ifs1 scope pos) 1 it (.ref D) env = (do
      standAt i1.pos
      match ← pyNext it with
      | none => pure (.done .next)
      | some v =>
        letOwnedTupleGo t1 it v
        assign t1 env v
        let mut ok := true
        for c in ifs1 do
          if ok then ok ← isTrue c env (eval c env)
        if ok then
          (do
            let kv ← eval kx env
            let vv ← holding [kv] (eval vx env)
            standAt { kx.pos with endLine := vx.pos.endLine, endCol := vx.pos.endCol }
            holding [kv, vv] (dictSet D kv vv))
        again (.compLoop (dcE kx vx t0 i0 t1 i1 ifs1 scope pos) 1 it (.ref D) env)) := by rfl
  show wpAny _ A ((compTurn (dcE kx vx t0 i0 t1 i1 ifs1 scope pos) 1 it (.ref D) env).onRaise (fun x => do noteFrame x env; theTreesLotGoes x)) _ _ s
  refine wpAny_noted ?_
  rw [e]
  refine wpAny_bind (wpAny_standAt (wpAny_bind (wpAny_mono (turn n s hJ) (fun r sa ha => ?_) fun _ _ z => z)))
  match r, ha with
  | none, ha => exact wpAny_pure ha
  | some v, ha =>
    refine wpAny_bind (wpAny_mono ha (fun _ sb hb => ?_) fun _ _ z => z)
    refine wpAny_bind (wpAny_mono hb (fun _ sc hc => wpAny_bind (wpAny_mono hc (fun ok sd hd => ?_) fun _ _ z => z)) fun _ _ z => z)
    match ok, hd with
    | false, hd => exact wpAny_pure ⟨rfl, hd⟩
    | true, hd =>
      exact wpAny_bind (wpAny_bind (wpAny_mono hd (fun kv se he => wpAny_bind (wpAny_holding (wpAny_mono he (fun vv sf hf => wpAny_bind (wpAny_standAt (wpAny_holding (wpAny_mono hf (fun _ sg hg => wpAny_pure ⟨rfl, hg⟩) fun _ _ z => z)))) fun _ _ z => z))) fun _ _ z => z))
theorem dc_second (h0 : codeAny (model prog w) A (.compLoop (dcE kx vx t0 i0 t1 i1 ifs1 scope pos) 1 it (.ref D) env) R s)
    (h : wpAny (model prog w) A (pyIter it) (fun it' s' => codeAny (model prog w) A (.compLoop (dcE kx vx t0 i0 t1 i1 ifs1 scope pos) 1 it' (.ref D) env) R s') (oops prog w A env R) s) :
    codeAny (model prog w) A (.compStart (dcE kx vx t0 i0 t1 i1 ifs1 scope pos) 1 it (.ref D) env) R s := by
  refine codeAny_of_tree ?_
  show wpAny _ _ ((compStart (dcE kx vx t0 i0 t1 i1 ifs1 scope pos) 1 it (.ref D) env).onRaise (fun x => do noteFrame x env; standAt theWindowsPlace)) _ _ s
  refine wpAny_notedAt ?_
  unfold compStart
  show wpAny _ _ (ask >>= _) _ _ s
  refine wpAny_bind (wpAny_askSetting (wpAny_ite ?_))
  split
  · first
      | exact wpAny_bind (wpAny_pure (wpAny_pure (And.intro rfl h0)))
      | exact wpAny_pure (And.intro rfl h0)
  · refine wpAny_bind (wpAny_rule ?_)
    first
      | exact wpAny_bind (wpAny_standAt (wpAny_bind (wpAny_mono h (fun it' s' z => wpAny_pure (And.intro rfl z)) fun _ _ x => x)))
      | (show wpAny _ _ (standAt i1.pos >>= _) _ _ s; exact wpAny_bind (wpAny_standAt (wpAny_bind (wpAny_mono h (fun it' s' z => wpAny_pure (And.intro rfl z)) fun _ _ x => x))))
end
section
variable {X : Cx}
/-- the dict at D; behind the first source's item the second source's own loop, from which Nx is reached -/
def tDc2 (wi : TI) (g : TG) (wi1 : TI) (g1 : TG) (tt1 : TT) (tk tv : TE) (vs vs1 : List Nat) : TE := fun σ H Q => wi σ H fun J H1 => ∀ D, H1 D = none → ∃ W : Nat → Nat → Hp → Prop, (∃ m, W 0 m (upd H1 D (.dK []))) ∧ ∀ i m H, W i m H →
  (J.stop i H ∧ Q (.ref D) H) ∨ (J.go i H ∧ ∃ Nx : Hp → Prop, (∀ H', Nx H' → ∃ m', m' < m ∧ W (i + 1) m' H') ∧ ∀ x H', J.yld i H x H' → g x (wipe σ vs) H' fun σ2 H2 => wipe σ2 vs = wipe σ vs ∧
    wi1 σ2 H2 fun J1 H4 => ∃ W1 : Nat → Nat → Hp → Prop, (∃ m, W1 0 m H4) ∧ ∀ j k H, W1 j k H →
      (J1.stop j H ∧ Nx H) ∨ (J1.go j H ∧ ∃ Nx1 : Hp → Prop, (∀ H', Nx1 H' → ∃ k', k' < k ∧ W1 (j + 1) k' H') ∧ ∀ x H', J1.yld j H x H' → g1 x (wipe σ2 vs1) H' fun σ3 H5 => wipe σ3 vs1 = wipe σ2 vs1 ∧ tt1 σ3 H5 fun b H6 =>
        if b = true then tk σ3 H6 fun y H7 => tv σ3 H7 fun z H8 => ∃ kvs k, y = kV k ∧ H8 D = some (.dK kvs) ∧ kvs.length < sizeLine ∧ Nx1 (upd H8 D (.dK (putK kvs k z))) else Nx1 H6))
theorem pe_dc2 {kx vx tg iter tg1 iter1 : Expr} {ifs1 : List Expr} {scope : Scope} {own : List (Str × Nat)} {vs1 : List Nat} {pos : Pos} {wi wi1 : TI} {g g1 : TG} {tt1 : TT} {tk tv : TE} (hc : X.calm = true) (hN : X.N.Nodup) (hi : PI X tg iter wi) (ok : BlkOk X.N X.env.scope scope own) (hv : ∀ i ∈ vs1, i ∈ own.map (·.2))
    (hg : ∀ (s : Shared) (H : Hp) (C : Addr) (cl : List (Str × Addr)) (fp : List Addr), PG (X.blk s H scope (compEnvC scope cl C X.env) fp) tg g)
    (hi1 : ∀ (s : Shared) (H : Hp) (C : Addr) (cl : List (Str × Addr)) (fp : List Addr), PI (X.blk s H scope (compEnvC scope cl C X.env) fp) tg1 iter1 wi1)
    (hg1 : ∀ (s : Shared) (H : Hp) (C : Addr) (cl : List (Str × Addr)) (fp : List Addr), PG (X.blk s H scope (compEnvC scope cl C X.env) fp) tg1 g1)
    (ht1 : ∀ (s : Shared) (H : Hp) (C : Addr) (cl : List (Str × Addr)) (fp : List Addr), PTs (X.blk s H scope (compEnvC scope cl C X.env) fp) ifs1 tt1)
    (hk : ∀ (s : Shared) (H : Hp) (C : Addr) (cl : List (Str × Addr)) (fp : List Addr), PE (X.blk s H scope (compEnvC scope cl C X.env) fp) kx tk)
    (he : ∀ (s : Shared) (H : Hp) (C : Addr) (cl : List (Str × Addr)) (fp : List Addr), PE (X.blk s H scope (compEnvC scope cl C X.env) fp) vx tv)
    (hs : ∀ x, foldedSetIterable iter X.env x = pure x := by intro _; rfl) (hs1 : ∀ env x, foldedSetIterable iter1 env x = pure x := by intro _ _; rfl) :
    PE X (dcE kx vx tg iter tg1 iter1 ifs1 scope pos) (tDc2 wi g wi1 g1 tt1 tk tv (own.map (·.2)) vs1) := by
  refine ⟨fun pins s σ H Q I h => ?_⟩
  rw [arm_eval_DictComp]
  have fr : ∀ y ∈ scope.names, y.2 = .free → ∃ c, X.env.cells.lookup y.1 = some c := fun y hy e => (ok.free y hy e).elim (fun z => I.ok.has _ (.inl z)) fun z => I.ok.has _ (.inr z)
  refine wpAny_comprehension_free (use := none) rfl hs (closure_ok fr) ok.kind (fun y hy e => by rw [ok.uniq y hy, e]) (thn (hi.run pins s σ H _ I h) fun xv sa hx => thn hx fun itv sb hb => ?_)
  obtain ⟨it, fp, tn, J, H2, e, I2, T, stB, fB, q⟩ := hb
  subst e
  refine wpAny_newObj_type (newEnv_comp ?_)
  generalize hD : sb.heap.objs.size = D
  obtain ⟨W, ⟨m0, w0⟩, turn⟩ := q D (I2.hok.fresh (Nat.le_of_eq hD))
  -- the dict is laid
  generalize hsc : ({ sb with heap := sb.heap.push { cls := .type "dict", data := .dict #[] } } : Shared) = sc
  have ehp : sc.heap = sb.heap.push { cls := .type "dict", data := .dict #[] } := by rw [← hsc]
  have Ic : Inv X pins σ (upd H2 D (.dK [])) sc := by
    rw [← hsc]
    refine I2.laid (t' := sb.toks) (fun b o z => Heap.get?_push_of_some _ z) (Nat.le_of_eq hD) ?_
    rw [← hD]
    exact dk_empty sb.heap I2.big
  have fC : ∀ b ∈ fp, FpOk X pins (upd H2 D (.dK [])) b ∧ b < sc.heap.objs.size := fun b hb => by
    obtain ⟨o, z, _⟩ := T.obj _ _ stB b hb
    have lt := Heap.lt_size z
    refine ⟨⟨?_, (fB b hb).2⟩, by rw [ehp, Heap.size_push]; exact Nat.lt_succ_of_lt lt⟩
    rw [upd_ne (by rw [← hD]; exact Nat.ne_of_lt lt)]
    exact (fB b hb).1
  have stC : tn 0 sc.heap := T.keep _ _ _ stB fun b _ o z => by rw [ehp]; exact Heap.get?_push_of_some _ z
  have I4 := block_start Ic ok hN fC
  generalize hcl : cellsFrom (sc.heap.objs.size + 1) scope.names (cloFrom X.env.cells scope.names []) = cl at I4
  have pg := hg sc (upd H2 D (.dK [])) sc.heap.objs.size cl fp
  have pi1 := hi1 sc (upd H2 D (.dK [])) sc.heap.objs.size cl fp
  have pg1 := hg1 sc (upd H2 D (.dK [])) sc.heap.objs.size cl fp
  have pt1 := ht1 sc (upd H2 D (.dK [])) sc.heap.objs.size cl fp
  have pk := hk sc (upd H2 D (.dK [])) sc.heap.objs.size cl fp
  have pe := he sc (upd H2 D (.dK [])) sc.heap.objs.size cl fp
  show codeAny _ _ (.compStart (dcE kx vx tg iter tg1 iter1 ifs1 scope pos) 0 (.ref it) (.ref D) (compEnvC scope cl sc.heap.objs.size X.env)) (compPost (model X.prog X.w) X.A X.xe none (EP X pins σ Q) (.ref D) sc.heap.objs.size) { sc with heap := pushCells (sc.heap.push { cls := .type "dict", data := .dict #[] }) scope.names }
  have nfp : ∀ b ∈ fp, (upd H2 D (.dK [])) b = none := fun b hb => (fC b hb).1.1
  generalize hce : compEnvC scope cl sc.heap.objs.size X.env = ce at I4 pg pi1 pg1 pt1 pk pe ⊢
  have cL : ce.locals = sc.heap.objs.size := by subst hce; rfl
  generalize hHc : upd H2 D (.dK []) = Hc at Ic I4 pg pi1 pg1 pt1 pk pe w0 nfp fC
  generalize hsd : ({ sc with heap := pushCells (sc.heap.push { cls := .type "dict", data := .dict #[] }) scope.names } : Shared) = sd at I4 ⊢
  have stD : tn 0 sd.heap := T.keep _ _ _ stC fun b _ o z => by rw [← hsd]; exact pushCells_keeps _ _ _ _ (Heap.get?_push_of_some _ z)
  -- what a turn starts from
  let Y : Cx := X.blk sc Hc scope ce fp
  let Go : Nat → Shared → Prop := fun n s' => ∃ i H', Inv Y [] (wipe σ (own.map (·.2))) H' s' ∧ tn i s'.heap ∧ (∀ b ∈ fp, H' b = none) ∧ W i n H'
  have stat : ∀ {σ' : L2.St} {H' : Hp} {s' : Shared}, Inv Y [] σ' H' s' → (∀ b ∈ fp, H' b = none) → ∀ b ∈ fp, FpOk Y [] H' b := fun {σ' H' s'} I' hn b hb =>
    ⟨hn b hb, (I'.ok.exf b hb).1, I'.ok.exfs b hb, .inl hb, fun x c z => (I'.ok.exf b hb).2 x c z, fun p hp => absurd (show p ∈ ([] : List (Addr × Obj)) ++ [] from hp) (by simp)⟩
  have loop : codeAny (model X.prog X.w) X.A (.compLoop (dcE kx vx tg iter tg1 iter1 ifs1 scope pos) 0 (.ref it) (.ref D) ce) (compPost (model X.prog X.w) X.A X.xe none (EP X pins σ Q) (.ref D) sc.heap.objs.size) sd := by
    refine dc_outer (hs1 ce) Go ?_ m0 ⟨0, Hc, I4, stD, nfp, w0⟩
    rintro n s5 ⟨i, H5, I5, st5, n5, w5⟩
    rcases turn i n H5 w5 with ⟨stop, qq⟩ | ⟨go, Nx, hNx, step⟩
    · refine thnF (T.done Y rfl rfl rfl hc i [] s5 _ H5 (fun _ _ => False) I5 (stat I5 n5) st5 stop) fun r s6 ⟨hr, I6⟩ => ?_
      subst hr
      have I7 : Inv X pins σ H5 s6 := Ic.call' (ch := fp) I6.os I6.base I6.hok I6.bare fun b hb => ⟨(fC b hb).1.2.2.2.1, (fC b hb).1.2.1, (fC b hb).1.2.2.2.2.1, (fC b hb).1.2.2.2.2.2⟩
      have nC : H5 sc.heap.objs.size = none := by
        have z : H5 ce.locals = none := I6.free
        rwa [cL] at z
      obtain ⟨m, hn, _⟩ := I6.loc
      have hn : s6.heap.Ns ce.locals m := hn
      rw [cL] at hn
      refine ⟨m, hn, fun h'' sb' => ?_⟩
      obtain ⟨f0, f1, f2, f3, f4, f5⟩ := Ic.fpOk (Nat.le_refl _) nC
      exact ⟨.ref D, H5, I7.turned (t' := s6.toks) (fun b o hb z => (sb'.2 b hb).trans z) f0 f1 f3 f4 f5, rfl, qq⟩
    · refine thnF (T.item Y rfl rfl rfl hc i [] s5 _ H5 (fun _ _ => False) I5 (stat I5 n5) st5 go) fun r s6 ⟨u, hr, h6⟩ => ?_
      subst hr
      refine thnF h6 fun _ s7 ⟨x, H7, I7, r7, y7, st7, n7⟩ => ?_
      refine thnF (pg.run _ s7 _ H7 x u _ (I7.pinned (stat I7 n7) (T.obj _ _ st7)) r7 (step x H7 y7)) fun _ s8 ⟨σ8, H8, I8, hw8, q8⟩ => ?_
      -- a state from which the next turn can start
      have fin : ∀ {σ9 : L2.St} {s' : Shared} {H' : Hp}, Inv Y ([] ++ pinsAt fp s7.heap) σ9 H' s' → (wipe σ (own.map (·.2))).length = σ9.length → (∀ (j : Nat) v, (wipe σ (own.map (·.2)))[j]? = some (some v) → σ9[j]? = some (some v)) → Nx H' → ∃ m, m < n ∧ Go m s' := fun {σ9 s' H'} I' hl hj nx => by
        obtain ⟨m', hm, w'⟩ := hNx H' nx
        have pin' : ∀ b ∈ fp, ∀ o, s7.heap.get? b = some o → s'.heap.get? b = some o ∧ H' b = none := fun b hb o z =>
          let y := I'.pin (b, o) (List.mem_append_right _ (List.mem_append_right _ (mem_pinsAt hb z)))
          ⟨y.1, y.2.1⟩
        refine ⟨m', hm, i + 1, H', (I'.unpinned (pins := [])).weak hl hj, T.keep _ _ _ st7 fun b hb o z => (pin' b hb o z).1, fun b hb => ?_, w'⟩
        obtain ⟨o, z, _⟩ := T.obj _ _ st7 b hb
        exact (pin' b hb o z).2
      refine thnF (pi1.run _ s8 σ8 H8 _ I8 q8) fun xv s10 hx => thnF hx fun itv s11 h11 => ?_
      obtain ⟨it1, fp1, tn1, J1, H11, e1, I11, T1, st11, f11, W1, ⟨m1, w1⟩, turn1⟩ := h11
      subst e1
      have stat1 : ∀ {H' : Hp}, (∀ b ∈ fp1, H' b = none) → ∀ b ∈ fp1, FpOk Y ([] ++ pinsAt fp s7.heap) H' b := fun hn b hb => ⟨hn b hb, (f11 b hb).2⟩
      let Go1 : Nat → Shared → Prop := fun k s' => ∃ j H', Inv Y ([] ++ pinsAt fp s7.heap) (wipe σ8 vs1) H' s' ∧ tn1 j s'.heap ∧ (∀ b ∈ fp1, H' b = none) ∧ W1 j k H'
      have loop1 : codeAny (model X.prog X.w) X.A (.compLoop (dcE kx vx tg iter tg1 iter1 ifs1 scope pos) 1 (.ref it1) (.ref D) ce)
          (fun r s' => match r with
            | .ok _ => ∃ m, m < n ∧ Go m s'
            | .error _ => False) s11 := by
        refine dc_inner Go1 ?_ m1 ⟨0, H11, I11.weak (wipe_length _ _) (fun j v z => (wipe_some z).1), st11, fun b hb => (f11 b hb).1, w1⟩
        rintro k s12 ⟨j, H12, I12, st12, n12, w12⟩
        rcases turn1 j k H12 w12 with ⟨stop1, nx1⟩ | ⟨go1, Nx1, hNx1, step1⟩
        · refine thnF (T1.done Y rfl rfl rfl hc j _ s12 (wipe σ8 vs1) H12 (fun _ _ => False) I12 (stat1 n12) st12 stop1) fun r s13 ⟨hr, I13⟩ => ?_
          subst hr
          refine fin I13 ?_ (fun j v z => ?_) nx1
          · rw [← hw8, wipe_length, wipe_length]
          · rw [← hw8] at z
            obtain ⟨z1, z2⟩ := wipe_some z
            rw [wipe_out fun y => z2 (hv j y)]
            exact z1
        · refine thnF (T1.item Y rfl rfl rfl hc j _ s12 (wipe σ8 vs1) H12 (fun _ _ => False) I12 (stat1 n12) st12 go1) fun r s13 ⟨u1, hr, h13⟩ => ?_
          subst hr
          refine thnF h13 fun _ s14 ⟨x1, H14, I14, r14, y14, st14, n14⟩ => ?_
          refine thnF (pg1.run _ s14 (wipe σ8 vs1) H14 x1 u1 _ (I14.pinned (stat1 n14) (T1.obj _ _ st14)) r14 (step1 x1 H14 y14)) fun _ s15 ⟨σ15, H15, I15, hw15, q15⟩ => ?_
          refine thnF (pt1.run _ s15 σ15 H15 _ I15 q15) fun b1 s16 ⟨H16, I16, q16⟩ => ?_
          have fin1 : ∀ {s' : Shared} {H' : Hp}, Inv Y (([] ++ pinsAt fp s7.heap) ++ pinsAt fp1 s14.heap) σ15 H' s' → Nx1 H' → ∃ m, m < k ∧ Go1 m s' := fun {s' H'} I' nx => by
            obtain ⟨m', hm, w'⟩ := hNx1 H' nx
            have pin' : ∀ b ∈ fp1, ∀ o, s14.heap.get? b = some o → s'.heap.get? b = some o ∧ H' b = none := fun b hb o z =>
              let y := I'.pin (b, o) (List.mem_append_right _ (List.mem_append_right _ (mem_pinsAt hb z)))
              ⟨y.1, y.2.1⟩
            refine ⟨m', hm, j + 1, H', I'.unpinned.weak (by rw [← hw15, wipe_length]) (fun j v z => by rw [← hw15] at z; exact (wipe_some z).1), T1.keep _ _ _ st14 fun b hb o z => (pin' b hb o z).1, fun b hb => ?_, w'⟩
            obtain ⟨o, z, _⟩ := T1.obj _ _ st14 b hb
            exact (pin' b hb o z).2
          cases b1 with
          | false =>
            simp only [Bool.false_eq_true, if_false] at q16 ⊢
            exact fin1 I16 q16
          | true =>
            simp only [if_true] at q16 ⊢
            refine thnF (pk.run _ s16 σ15 H16 _ I16 q16) fun z s17 ⟨yk, H17, I17, r17, q17⟩ => ?_
            refine thnF (pe.run _ s17 σ15 H17 _ I17 q17) fun z2 s18 ⟨yv, H18, I18, r18, kvs, ky, ek, hD18, hz18, nx⟩ => ?_
            subst ek
            exact d_dictSet (X := Y) I18 hD18 hz18 r17 r18 fun s19 I19 => fin1 I19 nx
      exact dc_second loop1 (T1.self X.A 0 _ _ _ st11 loop1)
  exact codeAny_compStart_dict loop (T.self X.A 0 _ _ _ stD loop)
end
end HB
/-! ## HBEnum -/
/-! enumerate over a tuple -/
namespace HB
open PySem PySem.Spec PyProof.Rows L2

theorem enum_made {v : Value} {o : Obj} {C : Heap → Prop} (B : Begins v o C) :
    Meets (Builtin.«enumerate.__new__» ⟨[.type "enumerate", v], []⟩) (fun _ R s => C s.heap ∧ R (.ok (.ret (.ref (s.heap.push o).objs.size)))
        { s with heap := (s.heap.push o).push { cls := .type "enumerate", data := .fields #[.none, .bool false, .ref s.heap.objs.size, rawInt 0, .none, .none] } }) :=
  .of_wp fun prog w A R s h => by
    obtain ⟨hp, g, d, tk, os⟩ := s
    obtain ⟨h1, h⟩ := h
    have hsub := sub_enumerate
    have begin_ : ∀ {A' : Around} {E : Value → Shared → Prop} {Q : Value → Shared → Prop}, Q (.ref hp.objs.size) ⟨hp.push o, g, d, tk, os⟩ → wpAny (model prog w) A' (pyIter v) Q E ⟨hp, g, d, tk, os⟩ :=
      fun q => B.iter prog w _ _ ⟨hp, g, d, tk, os⟩ _ h1 q
    wp_walk using begin_
    refine wpAny_stack_any fun st => wpAny_pure ?_
    split
    · rename_i c _ _ _ _ _
      cases (c == Value.type "enumerate") <;> (wp_walk using begin_; exact ⟨_, rfl, h⟩)
    · wp_walk using begin_
      exact ⟨_, rfl, h⟩
section
variable {prog : Program} {w : World} {A : Around} {E : Value → Shared → Prop} {s : Shared}
theorem call_enum_tup {l : Addr} {items : Array Value} {Q : Value → Shared → Prop} (hT : s.heap.IsTuple l items)
    (h : ∀ h', IsEnum h' (s.heap.objs.size + 1) s.heap.objs.size 0 .none → h'.IsTupleIter s.heap.objs.size l 0 → (∀ b o, s.heap.get? b = some o → h'.get? b = some o) → Q (.ref (s.heap.objs.size + 1)) { s with heap := h' }) :
    wpAny (model prog w) A (call (.type "enumerate") [.ref l]) Q E s := by
  refine callType_new F.called_enumerate (by decide) (F.typeCall_enumerate_1 _) (F.newCall_enumerate_1 _) (fun obj => F.args_object_init_2 obj _) F.entry_enumerate_new (enum_made (begins_tuple l items)) ⟨hT, ?_⟩
  have hz : (s.heap.push { cls := .type "tuple_iterator", data := .fields #[.ref l, .int 0 0] }).objs.size = s.heap.objs.size + 1 := Heap.size_push ..
  show _ ∧ _
  rw [hz]
  have he : IsEnum ((s.heap.push { cls := .type "tuple_iterator", data := .fields #[.ref l, .int 0 0] }).push { cls := .type "enumerate", data := .fields #[.none, .bool false, .ref s.heap.objs.size, rawInt 0, .none, .none] }) (s.heap.objs.size + 1) s.heap.objs.size 0 .none := by
    have z := Heap.get?_push_size (s.heap.push { cls := .type "tuple_iterator", data := .fields #[.ref l, .int 0 0] }) (o := { cls := .type "enumerate", data := .fields #[.none, .bool false, .ref s.heap.objs.size, rawInt 0, .none, .none] }) rfl
    rw [hz] at z; exact z
  exact ⟨⟨_, he, rfl⟩, h _ he ⟨_, Heap.get?_push_of_some _ (Heap.get?_push_size _ rfl), rfl, rfl⟩ fun b o x => Heap.get?_push_of_some _ (Heap.get?_push_of_some _ x)⟩
end
/-- the tuple at a, each item in a new pair -/
def Iet (K : PySem.W.Frag) (a : Addr) : It :=
  ⟨fun i H => ∃ (xs : List V) (x : V), SqT K H a xs ∧ xs[i]? = some x, fun i H v H' => ∃ T x, v = .ref T ∧ H T = none ∧ H' = upd H T (.tup [.int (i : Nat), x]) ∧ ∀ xs, SqT K H a xs → xs[i]? = some x, fun i H => ∃ xs : List V, SqT K H a xs ∧ xs.length ≤ i⟩
theorem tup_ne {h : Heap} {a it b : Addr} {i : Nat} {items : Array Value} (x : h.IsTuple a items) (y : h.IsTupleIter it b i) : a ≠ it := by
  intro e
  subst e
  obtain ⟨o, e1, c1, _⟩ := x
  obtain ⟨o', e2, c2, _⟩ := y
  rw [e1] at e2
  cases e2
  rw [c1] at c2
  exact absurd c2 (by decide)
theorem turn_et {P : Program} {w : World} {K : PySem.W.Frag} {elts : List Expr} {kk : Nat} {tpos : Pos} (a e it : Addr) :
    Turn P w K (.Tuple elts kk tpos) (Iet K a) [e, it] e (fun i h => (∃ old, IsEnum h e it ((i : Nat) : Int) old) ∧ h.IsTupleIter it a i ∧ e ≠ it) where
  mem := by simp
  obj := fun i h st b hb => by
    obtain ⟨⟨old, he⟩, ⟨o, ho, hc, hd⟩, _⟩ := st
    have e' : b = e ∨ b = it := by simpa using hb
    rcases e' with z | z
    · rw [z]; exact ⟨_, he, fun v q => nomatch q⟩
    · rw [z]; exact ⟨o, ho, fun v q => by rw [hd] at q; cases q⟩
  keep := fun i h h' st k => ⟨⟨st.1.choose, k e (by simp) _ st.1.choose_spec⟩, st.2.1.at fun o q => k it (by simp) o q, st.2.2⟩
  item := by
    intro X hP hw hK hc i pins s σ H E I hf st hg
    subst hP hw hK
    obtain ⟨⟨old, he⟩, hit, hne⟩ := st
    obtain ⟨xs, x, hq, hx⟩ := hg
    obtain ⟨its, rv, p, hz⟩ := I.tuple hq
    obtain ⟨u, hu, ru⟩ := rv.get hx
    have hT0 : s.heap.IsTuple a its.toArray := p
    have nai := tup_ne hT0 hit
    have nae : a ≠ e := fun z => by
      subst z
      obtain ⟨o, e1, c1, _⟩ := hT0
      have e2 : s.heap.get? a = _ := he
      rw [e1] at e2
      cases e2
      exact absurd (show Value.type "enumerate" = Value.type "tuple" from c1) (by decide)
    have hel : e < s.heap.objs.size := Heap.lt_size he
    have hil : it < s.heap.objs.size := by obtain ⟨_, q, _⟩ := hit; exact Heap.lt_size q
    have lt : i < its.toArray.size := by
      have := (List.getElem?_eq_some_iff.mp hu).1
      simpa using this
    refine wpAny_pyNext_enum_itemD (Draws.tuple (A := X.A.in1) (I.ok.hd hc) it a nai its.toArray) he ⟨hit, hT0⟩ lt hne (by simp [hne, Ne.symm nae]) fun y h' tk hy ho hit' hT hsz hk => ?_
    have ey : y = u := by
      have z : its.toArray[i]? = some y := hy
      rw [List.getElem?_toArray, hu] at z
      cases z; rfl
    subst ey
    refine ⟨_, rfl, wpAny_letOwnedTupleGo_enum (s := { s with heap := h', toks := tk + 1 }) ho fun h'' he' sb => ?_⟩
    have hT2 : h''.get? s.heap.objs.size = some { cls := .type "tuple", data := .seq #[.int i tk, y] } := (sb.2 _ (Nat.ne_of_gt hel)).trans hT
    have new : ObjOk X.prog X.w (upd H s.heap.objs.size (.tup [.int (i : Nat), x])) h'' s.heap.objs.size (.tup [.int (i : Nat), x]) :=
      ⟨by show 2 ≤ sizeLine; decide, [.int i tk, y], .cons ⟨_, rfl⟩ (.cons ru .nil), ⟨_, hT2, rfl, _, rfl⟩⟩
    have I1 : Inv X pins σ (upd H s.heap.objs.size (.tup [.int (i : Nat), x])) { s with heap := h'', toks := tk + 1 } :=
      I.turnedNew (ch := [e, it]) (fun b ob hb q => (sb.2 b (fun z => hb (by simp [z]))).trans (hk b ob (fun z => hb (by simp [z])) (fun z => hb (by simp [z])) q)) hf (Nat.le_refl _) new
    refine ⟨.ref s.heap.objs.size, _, I1, rfl, ⟨_, x, rfl, I.hok.fresh (Nat.le_refl _), rfl, fun ys hy => by rw [I.tuple_inj hy hq]; exact hx⟩, ⟨⟨y, ?_⟩, hit'.1.at fun o q => (sb.2 it (Ne.symm hne)).trans q, hne⟩, fun b hb => ?_⟩
    · have e1 : ((i + 1 : Nat) : Int) = (i : Int) + 1 := by omega
      rw [e1]; exact he'
    · have hb' : b < s.heap.objs.size := by
        have e' : b = e ∨ b = it := by simpa using hb
        rcases e' with z | z <;> rw [z] <;> assumption
      rw [upd_ne (Nat.ne_of_lt hb')]
      exact (hf b hb).1
  done := by
    intro X hP hw hK hc i pins s σ H E I hf st hg
    subst hP hw hK
    obtain ⟨⟨old, he⟩, hit, hne⟩ := st
    obtain ⟨xs, hq, hx⟩ := hg
    obtain ⟨its, rv, p, hz⟩ := I.tuple hq
    have hT0 : s.heap.IsTuple a its.toArray := p
    obtain ⟨f0, f1, f2, f3, f4, f5⟩ := hf it (by simp)
    have hl := rv.length
    have hT : s.TypeIs (.ref e) "enumerate" := ⟨_, he, rfl⟩
    unfold pyNext
    refine wpAny_bind (wpAny_attempt (wpAny_callSpecial?_slot (name := Str.ofString "__next__") hT F.slot_enumerate_next (wpAny_call_entry F.slot_enumerate_next hT F.entry_enumerate_next ?_ (F.args_enumerate_next_1 _))))
    show wpAny _ _ (field (.ref e) 2 >>= _) _ _ _
    refine wpAny_bind (wpAny_field he rfl (x := .ref it) rfl ?_)
    refine wpAny_bind (wpAny_nextOf_tuple_end (I.ok.hd hc) hit hT0 (by simp; omega) fun h' x he' hx' => ?_)
    obtain ⟨o, ho, hc'⟩ := hx'
    refine wpAny_bind (wpAny_isInstance (T := "StopIteration") (b := true) ⟨o, ho, hc'⟩ isSubtype_stop ?_)
    exact wpAny_pure ⟨rfl, I.turned (t' := s.toks) (fun b o hb q => he' b o hb q) f0 f1 f3 f4 f5⟩
  self := fun A i s Q E st h => let ⟨⟨_, he⟩, _⟩ := st; wpAny_pyIter_enum he h
def iEt (K : PySem.W.Frag) (ta : TA) : TI := fun σ H R => ta σ H fun vs H1 => ∃ a xs, vs = [.ref a] ∧ SqT K H1 a xs ∧ R (Iet K a) H1
theorem pi_et {X : Cx} {e : Expr} {ta : TA} {p pos tpos : Pos} {elts : List Expr} {kk : Nat} (hg : Gl X "enumerate") (hm : X.mg "enumerate" = none) (ha : PA X [e] ta) (hs : starEach [e] X.env = [(false, eval e X.env)] := by rfl) :
    PI X (.Tuple elts kk tpos) (.Call (.Name "enumerate" p) [e] [] pos) (iEt X.K ta) := by
  refine ⟨fun pins s σ H R I h => ?_⟩
  refine Call_ (ld_blt I hg hm boot_enumerate (PyProof.Rows.callWith_type1 (thn (ha.run pos pins s σ H _ I h) fun us s1 ⟨vs, H1, I1, r1, q1⟩ => ?_) hs rfl))
  obtain ⟨a, xs, ex, hq, q⟩ := q1
  subst ex
  cases r1 with
  | cons r rr =>
    cases rr
    cases r
    obtain ⟨its, rv, p', hz⟩ := I1.tuple hq
    refine call_enum_tup (items := its.toArray) p' fun h' he hit hk => wpAny_pyIter_enum he ?_
    refine ⟨s1.heap.objs.size + 1, [s1.heap.objs.size + 1, s1.heap.objs.size], _, _, H1, rfl, I1.kept (t' := s1.toks) hk, turn_et a (s1.heap.objs.size + 1) s1.heap.objs.size, ⟨⟨.none, he⟩, hit, Nat.succ_ne_self _⟩, fun b hb => ?_, q⟩
    have e' : b = s1.heap.objs.size + 1 ∨ b = s1.heap.objs.size := by simpa using hb
    have hle : s1.heap.objs.size ≤ b := by
      rcases e' with z | z
      · rw [z]; exact Nat.le_add_right _ _
      · rw [z]; exact Nat.le_refl _
    exact I1.fpOk hle (I1.hok.fresh hle)
end HB
/-! ## HBStat -/
/-! all_states, _law_states -/
namespace HB
open PySem PySem.Spec PyProof.Rows L2

def stepP (acc : List Sta) (row : List Int) : List Sta := acc.flatMap fun s => row.map fun n => s ++ [n]
def prodP (rows : List (List Int)) : List Sta := rows.foldl stepP [[]]
def encR (r : List Int) : PyData := .list (r.map .int)
theorem prodP_snoc (rows : List (List Int)) (r : List Int) : prodP (rows ++ [r]) = stepP (prodP rows) r := by unfold prodP; rw [List.foldl_append]; rfl
theorem stepP_len (r : List Int) : ∀ acc : List Sta, (stepP acc r).length = acc.length * r.length
  | [] => by simp [stepP]
  | s :: acc => by
    have ih := stepP_len r acc
    unfold stepP at ih ⊢
    rw [List.flatMap_cons, List.length_append, List.length_map, List.length_cons, ih, Nat.succ_mul, Nat.add_comm]
theorem stepP_snoc (acc : List Sta) (s : Sta) (r : List Int) : stepP (acc ++ [s]) r = stepP acc r ++ r.map fun n => s ++ [n] := by
  unfold stepP; rw [List.flatMap_append]; simp
theorem prodP_len : ∀ (k : Nat) (rows : List (List Int)), rows.length = k → (∀ r ∈ rows, r.length ≤ 16) → (prodP rows).length ≤ 16 ^ k
  | 0, rows, h, _ => by
    have : rows = [] := List.length_eq_zero_iff.mp h
    subst this; decide
  | k + 1, rows, h, hr => by
    have hne : rows ≠ [] := fun z => by subst z; cases h
    have e := List.dropLast_concat_getLast hne
    have hl : (rows.dropLast).length = k := by rw [List.length_dropLast]; omega
    have ih := prodP_len k rows.dropLast hl fun r h => hr r (List.dropLast_subset _ h)
    have h16 := hr _ (List.getLast_mem hne)
    rw [← e, prodP_snoc, stepP_len, Nat.pow_succ]
    exact Nat.mul_le_mul ih h16
theorem prodP_elem : ∀ (k : Nat) (rows : List (List Int)), rows.length = k → ∀ s, s ∈ prodP rows ↔ InRows rows s
  | 0, rows, h, s => by
    have : rows = [] := List.length_eq_zero_iff.mp h
    subst this
    show s ∈ [[]] ↔ _
    constructor
    · intro hs
      have : s = [] := by simpa using hs
      subst this
      exact ⟨rfl, fun i r x h => by simp at h⟩
    · rintro ⟨h1, _⟩
      have : s = [] := List.length_eq_zero_iff.mp h1
      simp [this]
  | k + 1, rows, h, s => by
    have hne : rows ≠ [] := fun z => by subst z; cases h
    have e := List.dropLast_concat_getLast hne
    have hl : (rows.dropLast).length = k := by rw [List.length_dropLast]; omega
    generalize rows.dropLast = R at e hl
    generalize rows.getLast hne = r at e
    subst e
    have ih := prodP_elem k R hl
    rw [prodP_snoc]
    unfold stepP
    rw [List.mem_flatMap]
    constructor
    · rintro ⟨t, ht, hs⟩
      obtain ⟨n, hn, rfl⟩ := List.mem_map.mp hs
      obtain ⟨h1, h2⟩ := (ih t).mp ht
      refine ⟨by rw [List.length_append, List.length_append, h1]; rfl, fun i r' x e1 e2 => ?_⟩
      by_cases hi : i < R.length
      · rw [List.getElem?_append_left hi] at e1
        rw [List.getElem?_append_left (by rw [h1]; exact hi)] at e2
        exact h2 i r' x e1 e2
      · rw [List.getElem?_append_right (by omega)] at e1
        rw [List.getElem?_append_right (by rw [h1]; omega)] at e2
        rw [h1] at e2
        have hi0 : i - R.length = 0 := by
          have := (List.getElem?_eq_some_iff.mp e1).1
          simp at this; omega
        rw [hi0] at e1 e2
        cases e1; cases e2
        exact hn
    · rintro ⟨h1, h2⟩
      have hsne : s ≠ [] := fun z => by subst z; simp at h1
      have es := List.dropLast_concat_getLast hsne
      have hsl : s.dropLast.length = R.length := by rw [List.length_dropLast, h1, List.length_append]; rfl
      refine ⟨s.dropLast, (ih _).mpr ⟨hsl, fun i r' x e1 e2 => ?_⟩, List.mem_map.mpr ⟨s.getLast hsne, ?_, es⟩⟩
      · have hi := (List.getElem?_eq_some_iff.mp e1).1
        refine h2 i r' x (by rw [List.getElem?_append_left hi]; exact e1) ?_
        rw [← es, List.getElem?_append_left (by rw [hsl]; exact hi)]
        exact e2
      · refine h2 R.length r (s.getLast hsne) (by rw [List.getElem?_append_right (Nat.le_refl _), Nat.sub_self]; rfl) ?_
        have : (s.dropLast ++ [s.getLast hsne])[R.length]? = some (s.getLast hsne) := by
          rw [List.getElem?_append_right (by rw [hsl]; exact Nat.le_refl _), hsl, Nat.sub_self]; rfl
        rw [es] at this
        exact this

theorem scStates : FnScope ["rows", "states", "row", "state", "number"] ["rows"] (defScope (topS 13)) := ⟨rfl, rfl, rfl, by decide +kernel, rfl, by decide +kernel, by decide +kernel⟩
theorem scLStates : FnScope ["_law_rows", "_law_found", "_law_row", "_law_longer", "_law_one", "_law_number"] ["_law_rows"] (defScope (topS 26)) := ⟨rfl, rfl, rfl, by decide +kernel, rfl, by decide +kernel, by decide +kernel⟩
def RowsSm (rows : List (List Int)) : Prop := rows.length = 5 ∧ ∀ r ∈ rows, r.length ≤ 16
abbrev spStates (K : PySem.W.Frag) : Sp := spA K (fun rows : List (List Int) => [.list (rows.map encR)]) RowsSm (fun rows d => d = .list ((prodP rows).map encS))
theorem enc_snoc (s : Sta) (n : Int) : encS (s ++ [n]) = .tuple (s.map .int ++ [.int n]) := by unfold encS; rw [List.map_append]; rfl
theorem prod_small {rows : List (List Int)} (h : RowsSm rows) (i : Nat) (hi : i ≤ 5) : (prodP (rows.take i)).length ≤ 1048576 := by
  have h1 := prodP_len i (rows.take i) (by rw [List.length_take, h.1]; omega) fun r hr => h.2 r (List.mem_of_mem_take hr)
  have h2 : 16 ^ i ≤ 16 ^ 5 := Nat.pow_le_pow_right (by decide) hi
  exact Nat.le_trans h1 h2
theorem prodP_lens {rows : List (List Int)} {s : Sta} (h : s ∈ prodP rows) : s.length = rows.length := ((prodP_elem _ rows rfl s).mp h).1
section
variable {P : Program} {w : World} {K : PySem.W.Frag} {mg : Str → Option Value} {base : Heap}
theorem ok_states {f : Addr} {fd : FuncData} (F : Fun K "all_states" "all_states" (topS 13) f fd) : FnOk P w K mg base CX0 1 f fd ["rows"] (spStates K) := by
  refine F.ok scStates (spA_len fun _ => rfl) (fun cdv A outer s H vs Q E hr h => ?_)
  obtain ⟨M, rows, wd, ha, sm, q⟩ := h
  cases ha with
  | cons hv ha =>
  cases ha
  rename_i vr
  refine ⟨_, pss_cons (ps_set (i := 1) scStates.nd rfl (.inl rfl) (pe_lst (pa_cons (pe_tup pa_nil) pa_nil)))
    (pss_cons (ps_for PassesOwn.never rfl (pi_list (pv 0)) (pg_name (i := 2) scStates.nd rfl (.inr rfl))
      (pss_one (ps_setLc2 (i := 1) (own := [("state", 3), ("number", 4)]) (vs1 := [4]) (g := gName 3) (g1 := gName 4) (tt := tYes) (tt1 := tYes) rfl scStates.nd rfl rfl (sw_true rfl rfl rfl (by decide +kernel)) (pi_list (pv 1))
          (blkOk_by (N := ["rows", "states", "row", "state", "number"]) (sc := defScope (topS 13)) (by decide +kernel)) (by decide) (fun _ _ _ _ _ => pg_name (i := 3) scStates.nd rfl (Or.inl rfl)) (fun _ _ _ _ _ => pts_nil)
          (fun _ _ _ _ _ => pi_listK K (pv 2)) (fun _ _ _ _ _ => pg_name (i := 4) scStates.nd rfl (Or.inl rfl)) (fun _ _ _ _ _ => pts_nil) (fun _ _ _ _ _ => pe_op (op_catAK K) (pv 3) (pe_tup (pa_cons (pv 4) pa_nil))))))
    (pss_one (ps_ret (pv 1)))), ?_⟩
  have ok : (Vw.base H M wd).ok H := Same.refl H
  have sm : RowsSm rows := sm
  have hv : (Vw.base H M wd).D K H vr (.list (rows.map encR)) := hv
  refine sq_asg (W := Vw.base H M wd) (K := K) (F := fun d => d = .list (([[]] : List Sta).map encS)) (ev_lstD (ea_c (ev_tupD ea_nil (by simp)) ea_nil) (by simp)) ok fun v1 d H1 e r1 d1 => ?_
  subst e
  refine sq_for (W := Vw.base H M wd) (ds := rows.map encR) (ev_var rfl (dmono r1 hv)) r1.2 fun H2 r2 => ?_
  refine ⟨fun i σ' H' => ∃ v1 y2, σ' = [some vr, some v1, y2, none, none] ∧ (Vw.base H M wd).R H2 H' ∧ (Vw.base H M wd).D K H' v1 (.list ((prodP (rows.take i)).map encS)),
    ⟨v1, none, rfl, Vw.refl r2.2, dmono r2 d1⟩, fun i σ' H' ⟨_, _, _, r, _⟩ => r.1, ?_, ?_⟩
  · rintro i d x σ' H' hd ⟨v1, y2, rfl, r3, d1⟩ dx
    rw [List.getElem?_map] at hd
    cases hri : rows[i]? with
    | none => rw [hri] at hd; cases hd
    | some row =>
    rw [hri] at hd
    cases hd
    have hi5 : i < 5 := by
      have := (List.getElem?_eq_some_iff.mp hri).1
      rw [sm.1] at this; exact this
    have hrow := sm.2 row (List.mem_of_getElem? hri)
    have hp := prod_small sm i (by omega)
    have et : rows.take (i + 1) = rows.take i ++ [row] := by rw [List.take_add_one, hri]; rfl
    have hp1 := prod_small sm (i + 1) (by omega)
    rw [et, prodP_snoc] at hp1
    generalize hL : prodP (rows.take i) = L at d1 hp hp1
    have mul := stepP_len row L
    refine st_asg (W := Vw.base H M wd) (K := K) (ev_lc2 (ds := L.map encS) (ev_var rfl d1) (fun _ => rfl) (fun _ _ => rfl)
      (fun j k out => (j ≤ L.length ∧ k ≤ row.length ∧ (j = L.length → k = 0)) ∧ out = ((stepP (L.take j) row ++ (row.take k).map fun n => L.getD j [] ++ [n])).map encS) ⟨⟨Nat.zero_le _, Nat.zero_le _, fun _ => rfl⟩, by simp [stepP]⟩
      (fun j k out ⟨⟨z1, z2, _⟩, e⟩ => ?_) (fun j out d ⟨⟨z1, z2, _⟩, e⟩ hd Dl acc H5 z ic dz => ?_)) r3.2 ?_
    · rw [e, List.length_map, List.length_append, stepP_len, List.length_map, List.length_take, List.length_take]
      have m1 : min j L.length * row.length ≤ L.length * row.length := Nat.mul_le_mul_right _ (Nat.min_le_right _ _)
      rw [sizeLine_eq]
      omega
    · rw [List.getElem?_map] at hd
      cases hsj : L[j]? with
      | none => rw [hsj] at hd; cases hd
      | some s =>
      rw [hsj] at hd
      cases hd
      have hj := (List.getElem?_eq_some_iff.mp hsj).1
      have eg : L.getD j [] = s := by rw [List.getD_eq_getElem?_getD, hsj]; rfl
      refine ⟨row.map .int, ev_var rfl (dp_same ic.sm dx), fun out' ⟨⟨y1, y2, _⟩, e'⟩ => ⟨⟨by omega, Nat.zero_le _, fun _ => rfl⟩, ?_⟩, fun k out' e2 acc' H6 y ⟨⟨y1, y2, _⟩, e'⟩ he ic6 dz6 dy => ?_⟩
      · rw [e', List.length_map, List.take_length, List.take_zero, List.take_add_one, hsj, eg]
        show _ = List.map encS (stepP (L.take j ++ [s]) row ++ List.map _ [])
        rw [stepP_snoc, List.map_nil, List.append_nil]
      · rw [List.getElem?_map] at he
        cases hnk : row[k]? with
        | none => rw [hnk] at he; cases he
        | some n =>
        rw [hnk] at he
        cases he
        have hk := (List.getElem?_eq_some_iff.mp hnk).1
        have hsl : s.length = i := by
          have : s ∈ prodP (rows.take i) := by rw [hL]; exact List.mem_of_getElem? hsj
          rw [prodP_lens this, List.length_take, sm.1]; omega
        refine ⟨fun e => e = encS (s ++ [n]), ?_, fun r hr => ⟨⟨z1, hk, fun z => by omega⟩, ?_⟩⟩
        · rw [enc_snoc]
          exact ev_catAD (ev_var rfl dz6) (ev_tupD (ea_c (ev_var rfl dy) ea_nil) (by simp)) (by rw [List.length_map, hsl]; simp; omega)
        · rw [e', hr, List.take_add_one, hnk, eg]
          show _ = List.map encS (_ ++ List.map _ (_ ++ [n]))
          rw [List.map_append, List.map_append, List.map_append, List.map_append, List.append_assoc]
          rfl
    · rintro v d H5 ⟨out, rfl, ⟨_, rfl⟩⟩ r5 dv
      refine ⟨v, some x, rfl, rtrans r3 r5, ?_⟩
      rw [et, prodP_snoc, hL]
      rw [List.length_map, List.take_zero, List.take_length, List.map_nil, List.append_nil] at dv
      exact dv
  · rintro σ' H' ⟨v1, y2, rfl, r3, d1⟩
    rw [List.length_map, List.take_length] at d1
    exact st_ret (W := Vw.base H M wd) (K := K) (ev_var rfl d1) r3.2 fun v d H4 e r4 dv => q v H4 d e r4.2 dv
theorem ok_lstates {f : Addr} {fd : FuncData} (F : Fun K "_law_states" "_law_states" (topS 26) f fd) : FnOk P w K mg base CX0 1 f fd ["_law_rows"] (spStates K) := by
  refine F.ok scLStates (spA_len fun _ => rfl) (fun cdv A outer s H vs Q E hr h => ?_)
  obtain ⟨M, rows, wd, ha, sm, q⟩ := h
  cases ha with
  | cons hv ha =>
  cases ha
  rename_i vr
  refine ⟨_, pss_cons (ps_set (i := 1) scLStates.nd rfl (.inl rfl) (pe_lst (pa_cons (pe_tup pa_nil) pa_nil)))
    (pss_cons (ps_for PassesOwn.never rfl (pi_list (pv 0)) (pg_name (i := 2) scLStates.nd rfl (.inl rfl))
      (pss_cons (ps_set (i := 3) scLStates.nd rfl (.inl rfl) (pe_lst pa_nil))
      (pss_cons (ps_for PassesOwn.never rfl (pi_list (pv 1)) (pg_name (i := 4) scLStates.nd rfl (.inr rfl))
        (pss_one (ps_set (i := 3) scLStates.nd rfl (.inl rfl) (pe_op op_catS (pv 3) (pe_lc (own := [("_law_number", 5)]) (g := gName 5) rfl scLStates.nd (pi_list (pv 2))
          (blkOk_by (N := ["_law_rows", "_law_found", "_law_row", "_law_longer", "_law_one", "_law_number"]) (sc := defScope (topS 26)) (by decide +kernel)) (fun _ _ _ _ _ => pg_name (i := 5) scLStates.nd rfl (Or.inl rfl)) (fun _ _ _ _ _ => pts_nil) (fun _ _ _ _ _ => pe_op (op_catAK K) (pv 4) (pe_tup (pa_cons (pv 5) pa_nil))))))))
      (pss_one (ps_set (i := 1) scLStates.nd rfl (.inl rfl) (pv 3))))))
    (pss_one (ps_ret (pv 1)))), ?_⟩
  have ok : (Vw.base H M wd).ok H := Same.refl H
  have sm : RowsSm rows := sm
  have hv : (Vw.base H M wd).D K H vr (.list (rows.map encR)) := hv
  refine sq_asg (W := Vw.base H M wd) (K := K) (F := fun d => d = .list (([[]] : List Sta).map encS)) (ev_lstD (ea_c (ev_tupD ea_nil (by simp)) ea_nil) (by simp)) ok fun v1 d H1 e r1 d1 => ?_
  subst e
  refine sq_for (W := Vw.base H M wd) (ds := rows.map encR) (ev_var rfl (dmono r1 hv)) r1.2 fun H2 r2 => ?_
  refine ⟨fun i σ' H' => ∃ v1 y2 y3 y4, σ' = [some vr, some v1, y2, y3, y4, none] ∧ (Vw.base H M wd).R H2 H' ∧ (Vw.base H M wd).D K H' v1 (.list ((prodP (rows.take i)).map encS)),
    ⟨v1, none, none, none, rfl, Vw.refl r2.2, dmono r2 d1⟩, fun i σ' H' ⟨_, _, _, _, _, r, _⟩ => r.1, ?_, ?_⟩
  · rintro i d x σ' H' hd ⟨v1, y2, y3, y4, rfl, r3, d1⟩ dx
    rw [List.getElem?_map] at hd
    cases hri : rows[i]? with
    | none => rw [hri] at hd; cases hd
    | some row =>
    rw [hri] at hd
    cases hd
    have hi5 : i < 5 := by
      have := (List.getElem?_eq_some_iff.mp hri).1
      rw [sm.1] at this; exact this
    have hrow := sm.2 row (List.mem_of_getElem? hri)
    have et : rows.take (i + 1) = rows.take i ++ [row] := by rw [List.take_add_one, hri]; rfl
    have hp1 := prod_small sm (i + 1) (by omega)
    rw [et, prodP_snoc] at hp1
    generalize hL : prodP (rows.take i) = L at d1 hp1
    refine sq_asg (W := Vw.base H M wd) (K := K) (F := fun d => d = .list []) (ev_lstD ea_nil (by simp)) r3.2 fun v3 d H4 e r4 d3 => ?_
    subst e
    refine sq_for (W := Vw.base H M wd) (ds := L.map encS) (ev_var rfl (dmono r4 d1)) r4.2 fun H5 r5 => ?_
    refine ⟨fun j σ' H' => ∃ v3 y4, σ' = [some vr, some v1, some x, some v3, y4, none] ∧ (Vw.base H M wd).R H5 H' ∧ (Vw.base H M wd).D K H' v3 (.list ((stepP (L.take j) row).map encS)),
      ⟨v3, y4, rfl, Vw.refl r5.2, dmono r5 d3⟩, fun i σ' H' ⟨_, _, _, r, _⟩ => r.1, ?_, ?_⟩
    · rintro j d z σ' H' hd ⟨v3, y4, rfl, r6, d3⟩ dz
      rw [List.getElem?_map] at hd
      cases hsj : L[j]? with
      | none => rw [hsj] at hd; cases hd
      | some s =>
      rw [hsj] at hd
      cases hd
      have hj := (List.getElem?_eq_some_iff.mp hsj).1
      have hsl : s.length = i := by
        have : s ∈ prodP (rows.take i) := by rw [hL]; exact List.mem_of_getElem? hsj
        rw [prodP_lens this, List.length_take, sm.1]; omega
      have ej : L.take (j + 1) = L.take j ++ [s] := by rw [List.take_add_one, hsj]; rfl
      have lj : (stepP (L.take j) row).length + row.length ≤ 1048576 := by
        rw [stepP_len, List.length_take]
        rw [stepP_len] at hp1
        have m1 : (min j L.length + 1) * row.length ≤ L.length * row.length := Nat.mul_le_mul_right _ (by omega)
        rw [Nat.succ_mul] at m1
        omega
      have rr := rtrans r4 (rtrans r5 r6)
      refine st_asg (W := Vw.base H M wd) (K := K) (F := fun d => d = .list ((stepP (L.take (j + 1)) row).map encS)) (ev_catS (F2 := fun d => d = .list ((row.map fun n => s ++ [n]).map encS)) (ev_var rfl d3) ?_ ?_) r6.2 fun v d H7 e r7 dv => ?_
      · refine ev_imp (ev_lc (ds := row.map .int) (ev_var rfl (dmono rr dx)) (fun _ => rfl) (fun k out => out = ((row.take k).map fun n => s ++ [n]).map encS) rfl (fun k out e => ?_) (fun k out d pi hd Dl acc H7 u ic du => ?_)) ?_
        · rw [e, List.length_map, List.length_map, List.length_take]; exact small1000 (by omega)
        · rw [List.getElem?_map] at hd
          cases hnk : row[k]? with
          | none => rw [hnk] at hd; cases hd
          | some n =>
          rw [hnk] at hd
          cases hd
          refine ⟨fun b => b = true, et_yes, fun _ => ⟨fun e => e = encS (s ++ [n]), ?_, fun e he => ?_⟩, fun e => by cases e⟩
          · rw [enc_snoc]
            exact ev_catAD (ev_var rfl (dp_same ic.sm dz)) (ev_tupD (ea_c (ev_var rfl du) ea_nil) (by simp)) (by rw [List.length_map, hsl]; simp; omega)
          · rw [pi, he, List.take_add_one, hnk]
            show _ = List.map encS (List.map _ (_ ++ [n]))
            rw [List.map_append, List.map_append]; rfl
        · rintro d ⟨out, rfl, rfl⟩
          rw [List.length_map, List.take_length]
      · rintro e1 e2 rfl rfl
        refine ⟨_, _, rfl, rfl, ?_, ?_⟩
        · rw [List.length_map, List.length_map, List.length_map, sizeLine_eq]; omega
        · rw [ej, stepP_snoc, List.map_append]
      · subst e
        exact ⟨v, some z, rfl, rtrans r6 r7, dv⟩
    · rintro σ' H' ⟨v3, y4, rfl, r6, d3⟩
      rw [List.length_map, List.take_length] at d3
      refine st_asg (W := Vw.base H M wd) (K := K) (ev_var rfl d3) r6.2 fun v d H7 e r7 dv => ?_
      subst e
      refine ⟨v, some x, some v3, y4, rfl, rtrans r3 (rtrans r4 (rtrans r5 (rtrans r6 r7))), ?_⟩
      rw [et, prodP_snoc, hL]
      exact dv
  · rintro σ' H' ⟨v1, y2, y3, y4, rfl, r3, d1⟩
    rw [List.length_map, List.take_length] at d1
    exact st_ret (W := Vw.base H M wd) (K := K) (ev_var rfl d1) r3.2 fun v d H4 e r4 dv => q v H4 d e r4.2 dv
end
end HB
/-! ## HBSam -/
/-! a dict of ints that grows -/
namespace HB
open PySem PySem.Spec PyProof.Rows L2

/-! ### rows -/
def loF : Nat → Nat
  | 0 => 1
  | _ => 0
def hiF : Nat → Nat
  | 0 => 8 | 1 => 6 | _ => 15
def othersL (ns : List (Nat × Int)) (f : Nat) : List Int := ((List.range (hiF f + 1 - loF f)).map fun i : Nat => ((loF f : Nat) : Int) + (i : Nat)).filter fun x => !decide ((f, x) ∈ ns)
def IsRow (ns : List (Nat × Int)) (f : Nat) (row : List Int) : Prop := row.Pairwise (· < ·) ∧ ∀ x, x ∈ row ↔ (f, x) ∈ ns ∨ x ∈ (othersL ns f).take 1
def IsRows (ns : List (Nat × Int)) (rows : List (List Int)) : Prop := rows.length = 5 ∧ ∀ f r, rows[f]? = some r → IsRow ns f r
theorem isRow_eq {ns : List (Nat × Int)} {f : Nat} {r r' : List Int} (h : IsRow ns f r) (h' : IsRow ns f r') : r = r' := lt_eq h.1 h'.1 fun k => by rw [h.2, h'.2]
theorem isRows_eq {ns : List (Nat × Int)} {r r' : List (List Int)} (h : IsRows ns r) (h' : IsRows ns r') : r = r' := by
  apply List.ext_getElem
  · rw [h.1, h'.1]
  · intro i h1 h2
    exact isRow_eq (h.2 i _ (List.getElem?_eq_getElem h1)) (h'.2 i _ (List.getElem?_eq_getElem h2))
theorem few16 {L : List Int} (hn : L.Nodup) (h : ∀ x ∈ L, 0 ≤ x ∧ x ≤ 15) : L.length ≤ 16 := by
  have n2 : (L.map Int.toNat).Nodup := by
    refine List.pairwise_map.mpr (hn.imp_of_mem fun {a b} ha hb hne e => hne ?_)
    have := h a ha
    have := h b hb
    omega
  have := nodup_len (L.map Int.toNat) (List.range 16) n2 fun x hx => by
    obtain ⟨y, hy, rfl⟩ := List.mem_map.mp hx
    have := h y hy
    exact List.mem_range.mpr (by omega)
  rwa [List.length_map, List.length_range] at this
theorem lt_nodup {L : List Int} (h : L.Pairwise (· < ·)) : L.Nodup := h.imp fun {a b} h e => by omega
theorem others_in {ns : List (Nat × Int)} {f : Nat} {x : Int} (h : x ∈ othersL ns f) : (loF f : Int) ≤ x ∧ x ≤ (hiF f : Int) ∧ (f, x) ∉ ns := by
  obtain ⟨h1, h2⟩ := List.mem_filter.mp h
  obtain ⟨i, hi, rfl⟩ := List.mem_map.mp h1
  have := List.mem_range.mp hi
  have hf : loF f ≤ hiF f := by unfold loF hiF; split <;> split <;> omega
  refine ⟨by omega, by omega, fun z => ?_⟩
  rw [decide_eq_true z] at h2; cases h2
theorem hiF_le (f : Nat) : hiF f ≤ 15 := by unfold hiF; split <;> omega
def OkNs (ns : List (Nat × Int)) : Prop := ∀ q ∈ ns, OkN q.1 q.2
theorem row_in {ns : List (Nat × Int)} {f : Nat} {row : List Int} (o : OkNs ns) (h : IsRow ns f row) : ∀ x ∈ row, 0 ≤ x ∧ x ≤ 15 := fun x hx => by
  rcases (h.2 x).mp hx with z | z
  · exact (o _ z).2
  · have := others_in (List.mem_of_mem_take z)
    have := hiF_le f
    omega
theorem row_len {ns : List (Nat × Int)} {f : Nat} {row : List Int} (o : OkNs ns) (h : IsRow ns f row) : row.length ≤ 16 := few16 (lt_nodup h.1) (row_in o h)
theorem rows_sm {ns : List (Nat × Int)} {rows : List (List Int)} (o : OkNs ns) (h : IsRows ns rows) : RowsSm rows := ⟨h.1, fun r hr => by
  obtain ⟨i, hi, e⟩ := List.getElem_of_mem hr
  exact row_len o (h.2 i r (by rw [List.getElem?_eq_getElem hi, e]))⟩
theorem row_ok {ns : List (Nat × Int)} {f : Nat} {row : List Int} (h : IsRow ns f row) : RowOk ns f (loF f : Int) (hiF f : Int) row where
  named := fun n hn => (h.2 n).mpr (.inl hn)
  other := fun x h1 h2 h3 => by
    have hx : x ∈ othersL ns f := by
      refine List.mem_filter.mpr ⟨List.mem_map.mpr ⟨(x - loF f).toNat, List.mem_range.mpr (by omega), by omega⟩, by simp [h3]⟩
    cases hL : othersL ns f with
    | nil => rw [hL] at hx; cases hx
    | cons o L =>
      have ho : o ∈ othersL ns f := by rw [hL]; exact List.mem_cons_self
      exact ⟨o, (h.2 o).mpr (.inr (by rw [hL]; simp)), (others_in ho).2.2⟩

/-! ### the dict -/
def dkI (ms : List Int) : List (Key × V) := ms.map fun m => ((.inl m : Key), V.bl true)
theorem dkI_any (ms : List Int) (n : Int) : ((dkI ms).any fun kv => decide (kv.1 = (.inl n : Key))) = decide (n ∈ ms) := by
  induction ms with
  | nil => rfl
  | cons m ms ih =>
    show (decide ((.inl m : Key) = .inl n) || ((dkI ms).any fun kv => decide (kv.1 = (.inl n : Key)))) = _
    rw [ih]
    by_cases e : m = n
    · subst e; simp
    · have : (Sum.inl m : Key) ≠ .inl n := fun z => e (Sum.inl.inj z)
      rw [decide_eq_false this, Bool.false_or]
      by_cases k : n ∈ ms
      · rw [decide_eq_true k, decide_eq_true (List.mem_cons_of_mem _ k)]
      · rw [decide_eq_false k, decide_eq_false fun z => (List.mem_cons.mp z).elim (fun q => e q.symm) k]
theorem dkI_put (ms : List Int) (n : Int) : putK (dkI ms) (.inl n : Key) (V.bl true) = dkI (if n ∈ ms then ms else ms ++ [n]) := by
  unfold putK
  rw [dkI_any]
  by_cases h : n ∈ ms
  · rw [decide_eq_true h, if_pos rfl, if_pos h]
    unfold dkI
    rw [List.map_map]
    refine List.map_congr_left fun m _ => ?_
    show (if (.inl m : Key) = .inl n then ((.inl m : Key), V.bl true) else (.inl m, V.bl true)) = _
    split <;> rfl
  · rw [decide_eq_false h, if_neg Bool.false_ne_true, if_neg h]
    unfold dkI
    rw [List.map_append]; rfl
theorem dkI_val (ms : List Int) (n : Int) : (valV (dkI ms) (.inl n : Key)).isSome = decide (n ∈ ms) := by rw [← valV_any, dkI_any]
/-- the view with one more thing that may change -/
def Vw.plusO (W : Vw) (D : Addr) (x : HO) : Vw where
  M := fun b => W.M b || b == D
  ok := fun H => W.ok H ∧ H D = some x
  up := fun H H' h e => ⟨W.up H H' h.1 e, e _ _ h.2⟩
  wd := fun H a h e => by
    rcases Bool.or_eq_true _ _ ▸ e with e | e
    · exact W.wd H a h.1 e
    · have : a = D := by simpa using e
      rw [this, h.2]; simp
  wr := fun H1 H2 E o h1 e h2 => ⟨W.wr H1 H2 E o h1.1 e h2.1, by
    rw [upd_ne (ne_of_none h1.2 e)]; exact h2.2⟩
section
variable {W : Vw} {K : PySem.W.Frag} {H H1 : Hp} {D : Addr} {x y : HO}
theorem plusO_MD : (W.plusO D x).M D = true := by show (W.M D || D == D) = true; simp
theorem plusO_sub : Same (off (W.plusO D x).M H) (off W.M H) := off_more fun b h => by show (W.M b || b == D) = true; rw [h]; rfl
theorem plusO_in (hD : H D = none) (e : Same (off W.M H) (off W.M H1)) : Same (off W.M H) (off (W.plusO D x).M H1) := fun b o h => by
  obtain ⟨h1, h2⟩ := off_some (e b o h)
  refine off_of ?_ h2
  show (W.M b || b == D) = false
  have hb : b ≠ D := fun z => by
    have := (off_some h).2
    rw [z, hD] at this; cases this
  rw [h1]
  simpa using hb
theorem plusO_start (h : W.ok H) (hD : H D = none) : (W.plusO D x).ok (upd H D x) := ⟨W.up _ _ h (same_new hD), upd_same⟩
theorem plusO_upd (h0 : W.ok H) (hD : H D = none) (h : (W.plusO D x).ok H1) : (W.plusO D y).ok (upd H1 D y) := ⟨W.wr _ _ D _ h0 hD h.1, upd_same⟩
/-- the dict at D with the ints ms, all else as it stood -/
def DcP (W : Vw) (H1 : Hp) (D : Addr) (Pi : List Int → Prop) (H' : Hp) : Prop := ∃ ms, Pi ms ∧ (W.plusO D (.dK (dkI ms))).ok H' ∧ Same (off W.M H1) (off (W.plusO D (.dK (dkI ms))).M H')
theorem plusO_M (x y : HO) : (W.plusO D x).M = (W.plusO D y).M := rfl
end

/-! ### {number: True for policy in policies for name, number in f(policy) if name == field} -/
section
variable {W : Vw} {K : PySem.W.Frag} {σ : L2.St} {H : Hp}
theorem ev_named {α : Type} {enc : α → PyData} {fn : α → List (Nat × Int)} {ps : List α} {pre : α → Prop} {E : XK} {f j k1 k2 ip jf : Nat} {vp : V} (hp : σ[ip]? = some (some vp)) (dp : W.D K H vp (.list (ps.map enc))) (hpre : ∀ p ∈ ps, pre p) (hns : OkNs (ps.flatMap fn)) (hf : f < 5)
    (hfld : σ[jf]? = some (some (.str (fname f))))
    (hw : ∀ x, wipe ((wipe σ [j, k1, k2]).set j (some x)) [j, k1, k2] = wipe σ [j, k1, k2])
    (hw1 : ∀ x y z, wipe (((wipe ((wipe σ [j, k1, k2]).set j (some x)) [k1, k2]).set k1 (some y)).set k2 (some z)) [k1, k2] = wipe ((wipe σ [j, k1, k2]).set j (some x)) [k1, k2])
    (hg : ∀ x, ((wipe σ [j, k1, k2]).set j (some x))[j]? = some (some x))
    (hf3 : ∀ x y z, (((wipe ((wipe σ [j, k1, k2]).set j (some x)) [k1, k2]).set k1 (some y)).set k2 (some z))[jf]? = σ[jf]?)
    (hg1 : ∀ x y z, (((wipe ((wipe σ [j, k1, k2]).set j (some x)) [k1, k2]).set k1 (some y)).set k2 (some z))[k1]? = some (some y))
    (hg2 : ∀ x y z, (((wipe ((wipe σ [j, k1, k2]).set j (some x)) [k1, k2]).set k1 (some y)).set k2 (some z))[k2]? = some (some z))
    (ok : W.ok H) {Q : VK} (q : ∀ D H1 ms, W.R H H1 → H D = none → off W.M H1 D = some (.dK (dkI ms)) → ms.Nodup → (∀ x, x ∈ ms ↔ (f, x) ∈ ps.flatMap fn) → Q (.ref D) H1) :
    tDc2 (iList K (tVar ip)) (gName j) (iList K (tCall (spA K (fun t : α => [enc t]) pre (fun t d => d = .list ((fn t).map encN))) [] E (tCons (tVar j) tNil))) (gTup K 2 (gCons (gName k1) (gCons (gName k2) gNil)))
      (tTest (tOp rEq (tVar k1) (tVar jf))) (tVar k2) (tC (.bl true)) [j, k1, k2] [k1, k2] σ H Q := by
  refine ⟨vp, hp, ?_⟩
  obtain ⟨a, xs, rfl, hsq, hd⟩ := d_lst dp
  have hxl := dps_len hd
  rw [List.length_map] at hxl
  refine ⟨a, rfl, ⟨xs, off_sub.seq hsq⟩, fun D hD => ?_⟩
  -- the numbers of the first i policies and of k pairs of the next
  let Pi : Nat → Nat → List Int → Prop := fun i k ms => ms.Nodup ∧ ∀ x, x ∈ ms ↔ (f, x) ∈ flatK fn ps i k
  have few : ∀ i k ms, Pi i k ms → ms.length < sizeLine := fun i k ms ⟨nd, m⟩ => by
    have := few16 nd fun x hx => by
      have h1 := (m x).mp hx
      have h2 : (f, x) ∈ ps.flatMap fn := by
        unfold flatK at h1
        rcases List.mem_append.mp h1 with h1 | h1
        · obtain ⟨p, hp, h1⟩ := List.mem_flatMap.mp h1
          exact List.mem_flatMap.mpr ⟨p, List.mem_of_mem_take hp, h1⟩
        · cases hpi : ps[i]? with
          | none => rw [hpi] at h1; simp at h1
          | some p =>
            rw [hpi] at h1
            exact List.mem_flatMap.mpr ⟨p, List.mem_of_getElem? hpi, List.mem_of_mem_take h1⟩
      exact (hns _ h2).2
    rw [sizeLine_eq]; omega
  refine ⟨fun i m H' => m = xs.length - i ∧ i ≤ xs.length ∧ DcP W H D (Pi i 0) H', ⟨xs.length, by simp, Nat.zero_le _, [], ⟨List.nodup_nil, fun x => by rw [flatK_00]; simp⟩, plusO_start ok hD, plusO_in hD (off_same (same_new hD))⟩, ?_⟩
  rintro i m H' ⟨rfl, hi, ms, pi, pok, psm⟩
  have hq : SqL K H' a xs := (off_sub (M := (W.plusO D (.dK (dkI ms))).M)).seq (psm.seq hsq)
  by_cases hlt : i < xs.length
  · have hx : xs[i]? = some xs[i] := List.getElem?_eq_getElem hlt
    refine .inr ⟨⟨xs, xs[i], hq, hx⟩, DcP W H D (Pi (i + 1) 0), fun H'' hp => ⟨xs.length - (i + 1), by omega, rfl, hlt, hp⟩, fun x H2 hy => ?_⟩
    obtain ⟨rfl, hy⟩ := hy
    obtain ⟨d, hd1, hd2⟩ := dps_at' hd (hy xs hq)
    rw [List.getElem?_map] at hd1
    cases hpi : ps[i]? with
    | none => rw [hpi] at hd1; cases hd1
    | some p =>
    rw [hpi] at hd1
    cases hd1
    refine ⟨hw x, ?_⟩
    refine ev_call (W := W.plusO D (.dK (dkI ms))) (x := p) (ea_c (ev_var (hg x) (dp_same psm hd2)) ea_nil) (hpre p (List.mem_of_getElem? hpi)) H2 (Vw.refl pok) _ fun v1 H4 d1 f1 a4 dv1 => ?_
    subst f1
    obtain ⟨p1, xs1, rfl, hsq1, hd1s⟩ := d_lst dv1
    have hl1 := dps_len hd1s
    rw [List.length_map] at hl1
    refine ⟨p1, rfl, ⟨xs1, off_sub.seq hsq1⟩, ?_⟩
    refine ⟨fun k n H5 => n = xs1.length - k ∧ k ≤ xs1.length ∧ DcP W H D (Pi i k) H5 ∧ Same (off (W.plusO D (.dK (dkI ms))).M H4) (off (W.plusO D (.dK (dkI ms))).M H5),
      ⟨xs1.length, by simp, Nat.zero_le _, ⟨ms, pi, a4.2, psm.trans a4.1⟩, Same.refl _⟩, ?_⟩
    rintro k n H5 ⟨rfl, hk, ⟨ms', pi', pok', psm'⟩, hsm⟩
    have hq1 : SqL K H5 p1 xs1 := (off_sub (M := (W.plusO D (.dK (dkI ms))).M)).seq (hsm.seq hsq1)
    by_cases hlt1 : k < xs1.length
    · have hx1 : xs1[k]? = some xs1[k] := List.getElem?_eq_getElem hlt1
      refine .inr ⟨⟨xs1, xs1[k], hq1, hx1⟩, fun H6 => DcP W H D (Pi i (k + 1)) H6 ∧ Same (off (W.plusO D (.dK (dkI ms))).M H4) (off (W.plusO D (.dK (dkI ms))).M H6), fun H6 hp => ⟨xs1.length - (k + 1), by omega, rfl, hlt1, hp⟩, fun y H6 hy6 => ?_⟩
      obtain ⟨rfl, hy6⟩ := hy6
      obtain ⟨e, he, hde⟩ := dps_at' hd1s (hy6 xs1 hq1)
      rw [List.getElem?_map] at he
      cases hqk : (fn p)[k]? with
      | none => rw [hqk] at he; cases he
      | some qn =>
      rw [hqk] at he
      cases he
      obtain ⟨f', n'⟩ := qn
      have hde : Dp K (off (W.plusO D (.dK (dkI ms))).M H4) y (.tuple [.str (fname f'), .int n']) := hde
      have hin : (f', n') ∈ ps.flatMap fn := List.mem_flatMap.mpr ⟨p, List.mem_of_getElem? hpi, List.mem_of_getElem? hqk⟩
      have hf' : f' < 5 := (hns _ hin).1
      -- the pair
      obtain ⟨pt, zs, rfl, hst, hdt⟩ := d_tup (dp_same hsm hde)
      have ezs : zs = [.str (fname f'), .int n'] := by
        cases hdt with
        | cons h1 h2 =>
          cases h2 with
          | cons h2 h3 => cases h3; cases h1; cases h2; rfl
      subst ezs
      refine ⟨pt, _, rfl, same_t off_sub hst, rfl, _, _, rfl, _, _, rfl, rfl, ?_⟩
      refine ⟨hw1 x (.str (fname f')) (.int n'), ?_⟩
      show tTest (tOp rEq (tVar k1) (tVar jf)) _ _ _
      refine et_testD (W := W.plusO D (.dK (dkI ms'))) (ev_eqS (K := K) (x := fname f') (y := fname f) (ev_var (hg1 x _ _) (.str _)) (ev_var ((hf3 x _ _).trans hfld) (.str _))) H6 (Vw.refl pok') _ fun b H7 fb a7 => ?_
      subst fb
      rw [fname_ne hf' hf]
      have emem : ∀ z, (f, z) ∈ flatK fn ps i (k + 1) ↔ (f, z) ∈ flatK fn ps i k ∨ (f, z) = (f', n') := fun z => by
        rw [flatK_more fn ps hpi hqk, List.mem_append, List.mem_singleton]
      by_cases ef : f' = f
      · rw [decide_eq_true ef, if_pos rfl]
        subst ef
        refine ⟨_, hg2 x _ _, ?_⟩
        refine ⟨dkI ms', .inl n', rfl, a7.2.2, by unfold dkI; rw [List.length_map]; exact few _ _ _ pi', ?_⟩
        rw [dkI_put]
        refine ⟨⟨_, ⟨?_, fun z => ?_⟩, plusO_upd ok hD a7.2, ?_⟩, ?_⟩
        · split
          · exact pi'.1
          · rename_i hn
            refine List.nodup_append.mpr ⟨pi'.1, by simp, fun u hu v hv e => ?_⟩
            have : v = n' := by simpa using hv
            exact hn (by rw [← this, ← e]; exact hu)
        · rw [emem, ← pi'.2 z]
          constructor
          · intro hz
            split at hz
            · exact .inl hz
            · rcases List.mem_append.mp hz with hz | hz
              · exact .inl hz
              · exact .inr (by rw [show z = n' by simpa using hz])
          · rintro (hz | hz)
            · split
              · exact hz
              · exact List.mem_append_left _ hz
            · have : z = n' := (Prod.mk.inj hz).2
              subst this
              split
              · assumption
              · exact List.mem_append_right _ (by simp)
        · rw [plusO_M _ (.dK (dkI ms')), off_upd plusO_MD]
          exact psm'.trans a7.1
        · rw [off_upd plusO_MD]
          exact hsm.trans a7.1
      · rw [decide_eq_false ef, if_neg Bool.false_ne_true]
        refine ⟨⟨ms', ⟨pi'.1, fun z => ?_⟩, a7.2, psm'.trans a7.1⟩, hsm.trans a7.1⟩
        rw [pi'.2 z, emem]
        constructor
        · exact .inl
        · rintro (hz | hz)
          · exact hz
          · exact absurd (Prod.mk.inj hz).1.symm ef
    · have ek : k = xs1.length := by omega
      refine .inl ⟨⟨xs1, hq1, by omega⟩, ?_⟩
      refine ⟨ms', ⟨pi'.1, fun z => ?_⟩, pok', psm'⟩
      rw [pi'.2 z, ek, hl1, flatK_next fn ps hpi]
  · have ei : i = xs.length := by omega
    refine .inl ⟨⟨xs, hq, by omega⟩, ?_⟩
    refine q D H' ms ⟨psm.trans plusO_sub, pok.1⟩ hD (off_of (Vw.fresh ok hD) pok.2) pi.1 fun x => ?_
    rw [pi.2 x, ei, hxl, flatK_end]
end
end HB
/-! ## HBSamp -/
/-! samples -/
namespace HB
open PySem PySem.Spec PyProof.Rows L2

theorem scSamples : FnScope ["policies", "found", "at", "field", "named", "others", "policy", "name", "number"] ["policies"] (defScope (topS 12)) := ⟨rfl, rfl, rfl, by decide +kernel, rfl, by decide +kernel, by decide +kernel⟩
section
variable {W : Vw} {K : PySem.W.Frag} {σ : L2.St} {H : Hp} {te : TE} {t : TT}
/-- for i, x in enumerate(a tuple of the top) -/
theorem sq_forE {D : Ends} {t1 u : TS} {i j : Nat} {a : Addr} {ds : List PyData} (k : Kt K a ds) (Pv : Nat → L2.St → Hp → Prop) (h0 : Pv 0 σ H)
    (hs : ∀ (n : Nat) d σ' H' T, ds[n]? = some d → Pv n σ' H' → H' T = none → t1 { D with nx := Pv (n + 1), ct := Pv (n + 1), bk := u D } ((σ'.set i (some (.int (n : Int)))).set j (some (dV d))) (upd H' T (.tup [.int (n : Int), dV d])))
    (hd : ∀ σ' H', Pv ds.length σ' H' → u D σ' H') : tSeq (tFor (iEt K (tCons (tC (.ref a)) tNil)) (gTup K 2 (gCons (gName i) (gCons (gName j) gNil))) t1) u D σ H := by
  refine ⟨a, ds.map dV, rfl, k.seq, ?_⟩
  refine ⟨fun n m σ' H' => m = ds.length - n ∧ n ≤ ds.length ∧ Pv n σ' H', ⟨ds.length, by simp, Nat.zero_le _, h0⟩, ?_⟩
  rintro n m σ' H' ⟨rfl, hn, p⟩
  by_cases lt : n < ds.length
  · have hx : ds[n]? = some ds[n] := List.getElem?_eq_getElem lt
    generalize ds[n] = d at hx
    refine .inr ⟨⟨ds.map dV, dV d, k.seq, by rw [List.getElem?_map, hx]; rfl⟩, Pv (n + 1), fun σ2 H2 p2 => ⟨ds.length - (n + 1), by omega, rfl, lt, p2⟩, fun x H2 y => ?_⟩
    obtain ⟨T, x', rfl, hT, rfl, ex⟩ := y
    have e2 := ex _ k.seq
    rw [List.getElem?_map, hx] at e2
    cases e2
    exact ⟨T, _, rfl, SqT.of upd_same, rfl, _, _, rfl, _, _, rfl, rfl, hs n d σ' H' T hx p hT⟩
  · have e : n = ds.length := by omega
    subst e
    exact .inl ⟨⟨ds.map dV, k.seq, by rw [List.length_map]; exact Nat.le_refl _⟩, hd σ' H' p⟩
theorem sq_raw {D : Ends} {u : TS} {i : Nat} (h : te σ H (fun v H1 => u D (σ.set i (some v)) H1)) : tSeq (tAsg te (gName i)) u D σ H := h
theorem st_appP {D : Ends} {l : Addr} {xs : List V} {ds : List PyData} {i : Nat} {F : PyData → Prop} (h : σ[i]? = some (some (.ref l))) (k : Lat W K l xs ds H) (h0 : ∃ H0, W.ok H0 ∧ H0 l = none) (ha : EvP (W.plus l xs) K te σ H F) (hz : ds.length < sizeLine)
    (q : ∀ d ys H1, F d → Lat W K l ys (ds ++ [d]) H1 → Same (off (W.plus l xs).M H) (off (W.plus l ys).M H1) → D.nx σ H1) : tDrop (tBM K "list" rAppend (tVar i) (tCons te tNil)) D σ H := by
  refine ⟨.ref l, h, .inl ⟨rfl, xs, k.seq⟩, ha H (Vw.refl k.ok) _ fun v H1 d1 f a dv => ?_⟩
  obtain ⟨H0, ok0, n0⟩ := h0
  have k1 := k.mono a
  refine ⟨l, xs, v, rfl, rfl, k1.ok.2, by rw [dps_len k.ds]; exact hz, q d1 (xs ++ [v]) _ f ⟨plus_app ok0 n0 k1.ok, ?_⟩ ?_⟩
  · show DpAll K (off (W.plus l (xs ++ [v])).M _) _ _
    rw [plus_M (xs ++ [v]) xs, off_upd plus_MD]
    exact dps_app k1.ds (.cons dv .nil)
  · rw [plus_M (xs ++ [v]) xs, off_upd plus_MD]
    exact a.1
theorem et_dnot {ms : List Int} {x : Int} {D : Addr} {i j : Nat} (h : σ[i]? = some (some (.int x))) (h4 : σ[j]? = some (some (.ref D))) (hd : off W.M H D = some (.dK (dkI ms))) : EvB W (tB (tDNotIn (tVar i) (tVar j))) σ H (!decide (x ∈ ms)) := fun H1 a Q q => by
  refine ⟨_, h, _, h4, D, _, rfl, DGet.k (k := .inl x) (off_some (a.1 _ _ hd)).2, _, rfl, ?_⟩
  rw [dkI_val]
  exact q _ H1 rfl (Vw.refl a.2)
theorem ev_listD {ms : List Int} {D : Addr} {i : Nat} (h : σ[i]? = some (some (.ref D))) (hd : off W.M H D = some (.dK (dkI ms))) : EvD W K (tCB rListD (tCons (tVar i) tNil)) σ H (.list (ms.map .int)) := fun H1 a Q q => by
  refine ⟨_, h, D, _, rfl, (off_some (a.1 _ _ hd)).2, fun p hp => ?_⟩
  have e : ((dkI ms).map fun kv => kV kv.1) = ms.map V.int := by unfold dkI; rw [List.map_map]; rfl
  rw [e]
  exact q _ _ _ rfl (Vw.newR a.2 hp) (Vw.newL a.2 hp (dps_ints ms))
theorem cut_1 {α : Type} (ds : List α) : cutD ds none (some 1) = ds.take 1 := by
  cases ds with
  | nil =>
    unfold cutD
    simp
  | cons a ds => exact cut_to (k := 1) _ (by simp)
/-- over range(lo, hi), told -/
theorem ev_lcR2 {ta : TA} {lo : Int} {n : Nat} {j : Nat} {vs : List Nat} (hb : -100 ≤ lo ∧ lo ≤ 100 ∧ n ≤ 100) (hl : EvA W K ta σ H (fun ds => ds = [.int lo, .int (lo + (n : Int))])) (hw : ∀ x, wipe ((wipe σ vs).set j (some x)) vs = wipe σ vs)
    (Pi : Nat → List PyData → Prop) (h0 : Pi 0 []) (hz : ∀ i out, Pi i out → out.length < sizeLine)
    (hs : ∀ (i : Nat) out, Pi i out → i < n → ∀ Dl acc H', InC W H Dl acc H' →
      ∃ B : Bool → Prop, EvT (W.plus Dl acc) t ((wipe σ vs).set j (some (.int (lo + (i : Int))))) H' B ∧ (B true → ∃ F, EvP (W.plus Dl acc) K te ((wipe σ vs).set j (some (.int (lo + (i : Int))))) H' F ∧ ∀ e, F e → Pi (i + 1) (out ++ [e])) ∧ (B false → Pi (i + 1) out)) :
    EvP W K (tLc (iRng2 ta) (gName j) t te vs) σ H (fun r => ∃ out, r = .list out ∧ Pi n out) := fun H0 a0 Q q => hl H0 a0 _ fun vs1 H1 dl f a1 dv => by
  subst f
  have e0 : vs1 = [V.int lo, V.int (lo + (n : Int))] := by
    cases dv with
    | cons h k =>
      cases k with
      | cons h2 k => cases k; cases h; cases h2; rfl
  subst e0
  have ok1 : W.ok H1 := a1.2
  have en : (lo + (n : Int) - lo).toNat = n := by omega
  refine ⟨lo, lo + (n : Int), rfl, ⟨by omega, by omega, by omega, by omega⟩, fun Dl hD => ?_⟩
  rw [en]
  refine lc_range (lo := lo) (n := n) (LcP W K H1 Dl Pi) ⟨[], [], h0, plus_start ok1 hD, plus_in hD (off_same (same_new hD)), .nil⟩ (fun i H' hi hp => ⟨hw _, ?_⟩) (fun H' hp => ?_)
  · obtain ⟨out, acc, pi, pok, psm, pds⟩ := hp
    obtain ⟨B, ht, kt, kf⟩ := hs i out pi hi Dl acc H' ⟨pok, ((rtrans a0 a1).1).trans psm, H1, ok1, hD⟩
    refine ht H' (Vw.refl pok) _ fun b H3 fb a3 => ?_
    cases b with
    | false => exact ⟨out, acc, kf fb, a3.2, psm.trans a3.1, dsmono a3 pds⟩
    | true =>
      obtain ⟨F, hE, kE⟩ := kt fb
      refine hE H3 a3 _ fun y H4 e fe a4 dy => ?_
      exact ⟨acc, a4.2.2, by rw [dps_len pds]; exact hz i out pi, lcp_more ok1 hD (kE e fe) a4.2 ((psm.trans a3.1).trans a4.1) (dsmono a4 (dsmono a3 pds)) dy⟩
  · obtain ⟨out, pi, r, dl⟩ := lcp_end ok1 hD hp
    exact q _ H' _ ⟨out, rfl, pi⟩ (rtrans a1 r) dl
end
def leastD : List PyData := [.int 1, .int 0, .int 0, .int 0, .int 0]
def mostD : List PyData := [.int 8, .int 6, .int 15, .int 15, .int 15]
theorem least_at {f : Nat} (h : f < 5) : atI leastD (f : Int) = some (.int (loF f)) := by
  match f, h with
  | 0, _ => rfl
  | 1, _ => rfl
  | 2, _ => rfl
  | 3, _ => rfl
  | 4, _ => rfl
theorem most_at {f : Nat} (h : f < 5) : atI mostD (f : Int) = some (.int (hiF f)) := by
  match f, h with
  | 0, _ => rfl
  | 1, _ => rfl
  | 2, _ => rfl
  | 3, _ => rfl
  | 4, _ => rfl
/-- the others by the list of those named -/
theorem others_take (ns : List (Nat × Int)) (f : Nat) (ms : List Int) (h : ∀ x, x ∈ ms ↔ (f, x) ∈ ns) (n : Nat) : (((List.range n).map fun i : Nat => ((loF f : Nat) : Int) + (i : Nat)).filter fun x => !decide (x ∈ ms)) = (((List.range n).map fun i : Nat => ((loF f : Nat) : Int) + (i : Nat)).filter fun x => !decide ((f, x) ∈ ns)) := by
  refine List.filter_congr fun x _ => ?_
  by_cases z : x ∈ ms
  · rw [decide_eq_true z, decide_eq_true ((h x).mp z)]
  · rw [decide_eq_false z, decide_eq_false fun y => z ((h x).mpr y)]
theorem filt_step {lo : Int} {p : Int → Bool} (n : Nat) : (((List.range (n + 1)).map fun i : Nat => lo + (i : Int)).filter p) = ((List.range n).map fun i : Nat => lo + (i : Int)).filter p ++ (if p (lo + (n : Int)) then [lo + (n : Int)] else []) := by
  rw [List.range_succ, List.map_append, List.filter_append]
  congr 1
  rw [List.map_cons, List.map_nil, List.filter_cons, List.filter_nil]
theorem row_made {ns : List (Nat × Int)} {f : Nat} {ms M : List Int} (nd : ms.Nodup) (m : ∀ x, x ∈ ms ↔ (f, x) ∈ ns) (p : M.Perm (ms ++ (othersL ns f).take 1)) (pw : M.Pairwise (· ≤ ·)) : IsRow ns f M := by
  refine ⟨le_lt pw (p.nodup_iff.mpr (List.nodup_append.mpr ⟨nd, ?_, fun a ha b hb e => ?_⟩)), fun x => ?_⟩
  · refine List.Nodup.sublist (List.take_sublist _ _) (List.Pairwise.filter _ ?_)
    rw [List.pairwise_map]
    exact List.nodup_range.imp fun {a b} h e => h (by omega)
  · subst e
    exact (others_in (List.mem_of_mem_take hb)).2.2 ((m a).mp ha)
  · rw [p.mem_iff, List.mem_append, m]
theorem hiF_lo (f : Nat) : loF f ≤ hiF f := by unfold loF hiF; split <;> split <;> omega

abbrev spSamples (K : PySem.W.Frag) (n : Nat) : Sp := spA K (fun ps : List Pol => [.list (ps.map encP)]) (fun ps => (∀ p ∈ ps, OkP' n p ∧ (nums p).length ≤ 100000) ∧ ps.length ≤ 10)
  (fun ps d => ∃ rows, d = .list (rows.map encR) ∧ IsRows (ps.flatMap nums) rows)
theorem okNs_of {n : Nat} {ps : List Pol} (h : ∀ p ∈ ps, OkP' n p) : OkNs (ps.flatMap nums) := fun q hq => by
  obtain ⟨p, hp, hq⟩ := List.mem_flatMap.mp hq
  obtain ⟨m, _, o⟩ := h p hp
  exact okP_nums o q hq
section
variable {P : Program} {w : World} {K : PySem.W.Frag} {mg : Str → Option Value} {base : Heap}
theorem ok_samples {f fN aF aL aM : Addr} {fd fdN : FuncData} {n k : Nat} (F : Fun K "samples" "samples" (topS 12) f fd) (FN : Fun K "numbers_in" "numbers_in" (topS 11) fN fdN) (GN : FnOk P w K mg base CX0 k fN fdN ["policy"] (spNI K n)) (gN : mg "numbers_in" = some (.ref fN)) (bN : Binds K fdN ["policy"] [])
    (gF : mg "FIELDS" = some (.ref aF)) (kF : Kt K aF (fieldsD.map .str)) (gL : mg "LEAST" = some (.ref aL)) (kL : Kt K aL leastD) (gM : mg "MOST" = some (.ref aM)) (kM : Kt K aM mostD)
    (mEnum : mg "enumerate" = none) (mRange : mg "range" = none) (mList : mg "list" = none) (mSorted : mg "sorted" = none) : FnOk P w K mg base CX0 (k + 1) f fd ["policies"] (spSamples K n) := by
  refine F.ok scSamples (spA_len fun _ => rfl) (fun cdv A outer s H vs Q E hr h => ?_)
  obtain ⟨M, ps, wd, ha, ⟨hp, hpl⟩, q⟩ := h
  cases ha with
  | cons hv ha =>
  cases ha
  rename_i vp
  refine ⟨_, pss_cons (ps_set (i := 1) scSamples.nd rfl (.inl rfl) (pe_lst pa_nil))
    (pss_cons (ps_for PassesOwn.never rfl (pi_et rfl mEnum (pa_cons (pe_glob (v := .ref aF) rfl gF rfl) pa_nil)) (pg_tup rfl (pgs_cons (pg_name (i := 2) scSamples.nd rfl (.inl rfl)) (pgs_cons (pg_name (i := 3) scSamples.nd rfl (.inr rfl)) pgs_nil)))
      (pss_cons (ps_set (i := 4) scSamples.nd rfl (.inr rfl) (pe_dc2 (own := [("policy", 6), ("name", 7), ("number", 8)]) (vs1 := [7, 8]) (g := gName 6) rfl scSamples.nd (pi_list (pv 0))
          (blkOk_by (N := ["policies", "found", "at", "field", "named", "others", "policy", "name", "number"]) (sc := defScope (topS 12)) (by decide +kernel)) (by decide) (fun _ _ _ _ _ => pg_name (i := 6) scSamples.nd rfl (Or.inl rfl))
          (fun _ _ _ _ _ => pi_listK K (pe_call GN hr rfl gN FN.kp bN .nil pass0 (pa_cons (pv 6) pa_nil)))
          (fun _ _ _ _ _ => (pg_tup rfl (pgs_cons (pg_name (i := 7) scSamples.nd rfl (Or.inl rfl)) (pgs_cons (pg_name (i := 8) scSamples.nd rfl (Or.inl rfl)) pgs_nil)) : PG _ _ (gTup K 2 (gCons (gName 7) (gCons (gName 8) gNil)))))
          (fun _ _ _ _ _ => pts_one (pt_cmpR op_eq (pv 7) (pv 3) (nomark _))) (fun _ _ _ _ _ => pv 8) (fun _ _ _ _ _ => pe_bl)))
      (pss_cons (ps_setLc (i := 5) (own := [("number", 8)]) (g := gName 8) rfl scSamples.nd rfl rfl (sw_true rfl rfl rfl (by decide +kernel))
          (pi_range2 rfl mRange (pa_cons (pe_ix ix_tup (pe_glob (v := .ref aL) rfl gL rfl) (pv 2) (fun _ _ => rfl)) (pa_cons (pe_op op_add (pe_ix ix_tup (pe_glob (v := .ref aM) rfl gM rfl) (pv 2) (fun _ _ => rfl)) pe_int) pa_nil)))
          (blkOk_by (N := ["policies", "found", "at", "field", "named", "others", "policy", "name", "number"]) (sc := defScope (topS 12)) (by decide +kernel)) (fun _ _ _ _ _ => pg_name (i := 8) scSamples.nd rfl (Or.inl rfl))
          (fun _ _ _ _ _ => pts_one (pt_cmp (pc_dnotin (Nat.lt_of_le_of_lt (Nat.add_le_add_left (by decide : 1 ≤ 65) _) (hu65 hr)) (pv 8) (pv 4)) (by rfl))) (fun _ _ _ _ _ => pv 8))
      (pss_one (ps_expr (pe_bm PySem.F.plainAttrs_list PySem.F.slot_list_append PySem.F.type_list_append mt_append (pv 1) (pa_cons (pe_callB cr_sortedI rfl mSorted (by decide +kernel)
        (pa_cons (pe_op op_catS (pe_callTy (call_list_dK rfl) rfl mList (by decide +kernel) (pa_cons (pv 4) pa_nil)) (pe_slice sl_list (pv 5) po_none (po_some pe_int))) pa_nil)) pa_nil)))))))
    (pss_one (ps_ret (pv 1)))), ?_⟩
  have ok : (Vw.base H M wd).ok H := Same.refl H
  have hv : (Vw.base H M wd).D K H vp (.list (ps.map encP)) := hv
  have hpl : ps.length ≤ 10 := hpl
  have hp : ∀ p ∈ ps, OkP' n p ∧ (nums p).length ≤ 100000 := hp
  have ons : OkNs (ps.flatMap nums) := okNs_of fun p h => (hp p h).1
  refine sq_nil (K := K) ok fun l H1 _ hl k1 sm1 => ?_
  refine sq_forE (ds := fieldsD.map .str) kF (fun i σ' H' => ∃ rows xs y2 y3 y4 y5, σ' = [some vp, some (.ref l), y2, y3, y4, y5, none, none, none] ∧ Lat (Vw.base H M wd) K l xs (rows.map encR) H' ∧ Same (off (Vw.base H M wd).M H) (off ((Vw.base H M wd).plus l xs).M H') ∧ rows.length = i ∧ ∀ f r, rows[f]? = some r → IsRow (ps.flatMap nums) f r)
    ⟨[], [], none, none, none, none, rfl, k1, sm1, rfl, fun f r h => by simp at h⟩ (fun i d σ' H' T hd ⟨rows, xs, y2, y3, y4, y5, e, kl, sm, hi, hrow⟩ hT => ?_) fun σ' H' ⟨rows, xs, y2, y3, y4, y5, e, kl, sm, hi, hrow⟩ => ?_
  · subst e
    have i5 : i < 5 := by
      have := (List.getElem?_eq_some_iff.mp hd).1
      simpa [fieldsD] using this
    have ed : d = .str (fname i) := by
      rw [List.getElem?_map, fname_at i5] at hd
      exact (Option.some.inj hd).symm
    subst ed
    have rT := Vw.newR (o := HO.tup [V.int (i : Int), V.str (fname i)]) kl.ok hT
    have kl := kl.mono rT
    have sm := sm.trans rT.1
    have okl := kl.ok
    clear rT hT
    show tSeq _ _ _ _ (upd H' T (.tup [.int (i : Int), .str (fname i)]))
    generalize upd H' T (HO.tup [V.int (i : Int), V.str (fname i)]) = H'' at *
    -- named
    refine sq_raw ?_
    refine ev_named (W := (Vw.base H M wd).plus l xs) (enc := encP) (fn := nums) (ps := ps) (pre := fun p => OkP' n p ∧ (nums p).length ≤ 100000) (f := i) (ip := 0) (jf := 3) (j := 6) (k1 := 7) (k2 := 8) rfl (dp_same sm hv) hp ons i5 rfl (fun _ => rfl) (fun _ _ _ => rfl) (fun _ => rfl) (fun _ _ _ => rfl) (fun _ _ _ => rfl) (fun _ _ _ => rfl) okl fun D H3 ms r3 nD hD nd hm => ?_
    have few := few16 nd fun x hx => (ons _ ((hm x).mp hx)).2
    have olen : (othersL (ps.flatMap nums) i).length ≤ 16 := by
      have h1 := List.length_filter_le (fun x => !decide ((i, x) ∈ ps.flatMap nums)) ((List.range (hiF i + 1 - loF i)).map fun j : Nat => ((loF i : Nat) : Int) + (j : Nat))
      rw [List.length_map, List.length_range] at h1
      have := hiF_le i
      unfold othersL
      omega
    -- others
    have hll := hiF_lo i
    have hl15 := hiF_le i
    refine sq_asg (W := (Vw.base H M wd).plus l xs) (K := K) (F := fun d => d = .list ((othersL (ps.flatMap nums) i).map .int)) ?_ r3.2 fun vo d H4 e r4 dvo => ?_
    · refine ev_imp (ev_lcR2 (lo := (loF i : Int)) (n := hiF i + 1 - loF i) (by omega) (ea_c (ev_ixT (ds := leastD) (i := (i : Int)) (ev_c kL.dp) (ev_var rfl (.int _)) (least_at i5)) (ea_c (ev_I0 (gd := fun i j => .int (i + j)) (fun i j H => .int _) (F1 := fun d => d = .int (hiF i : Int)) (F2 := fun d => d = .int 1) (ev_ixT (ds := mostD) (i := (i : Int)) (ev_c kM.dp) (ev_var rfl (.int _)) (most_at i5)) ev_int fun e1 e2 a1 a2 => ⟨_, _, a1, a2, ?_⟩) ea_nil)) (fun _ => rfl)
        (fun j out => j ≤ 16 ∧ out = (((List.range j).map fun i2 : Nat => ((loF i : Nat) : Int) + (i2 : Nat)).filter fun x => !decide (x ∈ ms)).map .int) ⟨Nat.zero_le _, rfl⟩ (fun j out ⟨hj, e⟩ => ?_) (fun j out ⟨_, pi⟩ hj Dl acc H5 ic => ⟨fun b => b = !decide (((loF i : Int) + (j : Int)) ∈ ms), et_dnot (D := D) (i := 8) (j := 4) rfl rfl (ic.sm _ _ hD), fun hb => ⟨fun e => e = .int ((loF i : Int) + (j : Int)), ev_var rfl (.int _), fun e he => ⟨by omega, ?_⟩⟩, fun hb => ⟨by omega, ?_⟩⟩)) ?_
      · congr 1
        omega
      · have h1 := List.length_filter_le (fun x => !decide (x ∈ ms)) ((List.range j).map fun i2 : Nat => ((loF i : Nat) : Int) + (i2 : Nat))
        rw [List.length_map, List.length_range] at h1
        rw [e, List.length_map, sizeLine_eq]
        omega
      · rw [pi, he, filt_step, if_pos hb.symm, List.map_append]; rfl
      · rw [pi, filt_step, if_neg (by rw [← hb]; exact Bool.false_ne_true), List.append_nil]
      · rintro d ⟨out, rfl, _, rfl⟩
        rw [others_take _ _ _ hm]; rfl
    · subst e
      have hD4 := r4.1 _ _ hD
      have okl4 := r4.2
      have kl4 := (kl.mono r3).mono r4
      refine st_appP (W := Vw.base H M wd) (F := fun d => ∃ r, d = encR r ∧ IsRow (ps.flatMap nums) i r) rfl kl4 ⟨H, ok, hl⟩ ?_ (by rw [List.length_map, hi]; exact small1000 (by omega)) ?_
      · refine ev_sortedI (F := fun d => d = .list ((ms ++ (othersL (ps.flatMap nums) i).take 1).map .int)) (ev_catS (F1 := fun d => d = .list (ms.map .int)) (F2 := fun d => d = .list (((othersL (ps.flatMap nums) i).take 1).map .int)) (ev_listD rfl hD4) (ev_is (ev_slL (ev_var rfl dvo) eo_none (eo_some (K := K) ev_int)) ?_) ?_) ?_
        · rw [cut_1, List.map_take]
        · rintro e1 e2 rfl rfl
          refine ⟨_, _, rfl, rfl, ?_, by rw [List.map_append]⟩
          rw [List.length_map, List.length_map, List.length_take]
          exact Nat.le_of_lt (small1000 (by omega))
        · rintro d rfl
          exact ⟨_, rfl, fun M' pm pw => ⟨M', rfl, row_made nd hm pm pw⟩⟩
      · rintro d ys H5 ⟨r, rfl, hr5⟩ k5 s5
        refine ⟨rows ++ [r], ys, _, _, _, _, rfl, by rw [List.map_append]; exact k5, ((sm.trans r3.1).trans r4.1).trans s5, by rw [List.length_append, hi]; rfl, fun f' r' h' => ?_⟩
        by_cases z : f' < rows.length
        · rw [List.getElem?_append_left z] at h'
          exact hrow f' r' h'
        · rw [List.getElem?_append_right (by omega)] at h'
          have z0 : f' - rows.length = 0 := by
            have := (List.getElem?_eq_some_iff.mp h').1
            simp at this; omega
          rw [z0] at h'
          cases h'
          have : f' = i := by omega
          rw [this]; exact hr5
  · subst e
    exact ⟨.ref l, rfl, q (.ref l) H' (.list (rows.map encR)) ⟨rows, rfl, hi, hrow⟩ kl.ok.1 (kl.give (Vw.fresh ok hl))⟩
end
end HB
/-! ## HBDiff -/
/-! difference, named_numbers -/
namespace HB
open PySem PySem.Spec PyProof.Rows L2

theorem scDiff : FnScope ["policy", "other", "state"] ["policy", "other"] (defScope (topS 14)) := ⟨rfl, rfl, rfl, by decide +kernel, rfl, by decide +kernel, by decide +kernel⟩
theorem scNamed : FnScope ["policies", "field", "at", "row", "number", "policy"] ["policies", "field"] (defScope (topS 15)) := ⟨rfl, rfl, rfl, by decide +kernel, rfl, by decide +kernel, by decide +kernel⟩
noncomputable def differ (p q : Pol) (s : Sta) : Bool := @decide (¬ Alike p q s) (Classical.propDecidable _)
theorem differ_t {p q : Pol} {s : Sta} : differ p q s = true ↔ ¬ Alike p q s := by unfold differ; exact @decide_eq_true_iff _ (Classical.propDecidable _)
theorem differ_f {p q : Pol} {s : Sta} : differ p q s = false ↔ Alike p q s := by
  unfold differ
  exact (@decide_eq_false_iff_not _ (Classical.propDecidable _)).trans Classical.not_not
def tellD : Option Sta → PyData
  | none => .none
  | some s => encS s
/-- sorted(after(..)) -/
def SortedAfter (R : Sta → Prop) (d : PyData) : Prop := ∃ L : List Sta, d = .list ((sortS L).map encS) ∧ L.Nodup ∧ ∀ s, s ∈ L ↔ R s
theorem sorted_cmp {p q : Pol} {s : Sta} {L M : List Sta} (nL : L.Nodup) (mL : ∀ t, t ∈ L ↔ Den p s t) (nM : M.Nodup) (mM : ∀ t, t ∈ M ↔ Den q s t) : decide (sortS L = sortS M) = !differ p q s := by
  by_cases e : sortS L = sortS M
  · rw [decide_eq_true e, differ_f.mpr fun t => ?_]; · rfl
    rw [← mL, ← mM]
    exact (sortS_eq_iff nL nM).mp e t
  · rw [decide_eq_false e, differ_t.mpr fun a => e (sortS_ext nL nM fun t => ?_)]; · rfl
    rw [mL, mM]; exact a t
section
variable {W : Vw} {K : PySem.W.Frag} {σ : L2.St} {H : Hp} {ta tb : TE} {F1 F2 G : PyData → Prop}
theorem ev_sAfter {n : Nat} {p : Pol} {s : Sta} {E : XK} {tas : TA} (ha : EvA W K tas σ H (fun ds => ds = [encP p, encS s])) (hp : OkP' n p) (hs : InU s) : EvP W K (tCB (rSortS K) (tCons (tCall (spAfter K n) [] E tas) tNil)) σ H (SortedAfter (Den p s)) :=
  ev_sortedS (ev_call (x := (p, s)) ha ⟨hp, hs⟩) fun d ⟨L, e, nd, m⟩ => by
    refine ⟨L, e, fun t ht z => ?_, L, rfl, nd, m⟩
    obtain ⟨_, _, o⟩ := hp
    have := (den_U o hs ((m t).mp ht)).1
    rw [z] at this; cases this
theorem ev_neD (ha : EvP W K ta σ H F1) (hb : EvP W K tb σ H F2) (k : ∀ e1 e2, F1 e1 → F2 e2 → SeqAt.shaped e1 = true ∧ SeqAt.shaped e2 = true ∧ G (.bool (!PyData.eqv e1 e2))) : EvP W K (tOp (rNeD K) ta tb) σ H G :=
  ev_op ha hb fun x y d1 d2 H1 f1 f2 r dx dy Q q => by
    obtain ⟨s1, s2, g⟩ := k d1 d2 f1 f2
    exact ⟨d1, d2, Vw.out dx, Vw.out dy, s1, s2, q _ H1 _ g (Vw.refl r.2) (.bl _)⟩
theorem ev_eqD (ha : EvP W K ta σ H F1) (hb : EvP W K tb σ H F2) (k : ∀ e1 e2, F1 e1 → F2 e2 → SeqAt.shaped e1 = true ∧ SeqAt.shaped e2 = true ∧ G (.bool (PyData.eqv e1 e2))) : EvP W K (tOp (rEqD K) ta tb) σ H G :=
  ev_op ha hb fun x y d1 d2 H1 f1 f2 r dx dy Q q => by
    obtain ⟨s1, s2, g⟩ := k d1 d2 f1 f2
    exact ⟨d1, d2, Vw.out dx, Vw.out dy, s1, s2, q _ H1 _ g (Vw.refl r.2) (.bl _)⟩
theorem ev_inD {d : PyData} (ha : EvD W K ta σ H d) (hb : EvP W K tb σ H F2) (k : ∀ e, F2 e → ∃ ds, e = .list ds ∧ SeqAt.shaped d = true ∧ SeqAt.shaped (.list ds) = true ∧ G (.bool (ds.any fun z => PyData.eqv z d))) : EvP W K (tOp (rInD K) ta tb) σ H G :=
  ev_op ha hb fun x y d1 d2 H1 f1 f2 r dx dy Q q => by
    subst f1
    obtain ⟨ds, rfl, s1, s2, g⟩ := k d2 f2
    exact ⟨d1, ds, Vw.out dx, Vw.out dy, s1, s2, q _ H1 _ g (Vw.refl r.2) (.bl _)⟩
/-- for x in a list, told by what it is -/
theorem sq_forP {F : PyData → Prop} {g : TG} {tl : TE} {D : Ends} {t1 u : TS} (h : EvP W K tl σ H F) (ok : W.ok H)
    (k : ∀ v d H1, F d → W.R H H1 → W.D K H1 v d → ∃ ds, d = .list ds ∧ ∃ Pv : Nat → L2.St → Hp → Prop, Pv 0 σ H1 ∧ (∀ i σ' H', Pv i σ' H' → Same (off W.M H1) (off W.M H')) ∧
      (∀ i d x σ' H', ds[i]? = some d → Pv i σ' H' → W.D K H' x d → g x σ' H' fun σ2 H2 => t1 { D with nx := Pv (i + 1), ct := Pv (i + 1), bk := u D } σ2 H2) ∧ (∀ σ' H', Pv ds.length σ' H' → u D σ' H')) : tSeq (tFor (iList K tl) g t1) u D σ H :=
  h H (Vw.refl ok) _ fun v H1 d f a dv => by
    obtain ⟨ds, rfl, Pv, p0, pk, ps, pd⟩ := k v d H1 f a dv
    obtain ⟨p, xs, rfl, hs, hd⟩ := d_lst dv
    refine ⟨p, rfl, ⟨xs, off_sub.seq hs⟩, ?_⟩
    refine for_list (K := K) (xs := xs) Pv p0 (fun i σ' H' _ hp => (off_sub (M := W.M)).seq ((pk i σ' H' hp).seq hs)) (fun i x σ' H' hx hp => ?_) fun σ' H' hp => pd σ' H' (by rw [← dps_len hd]; exact hp)
    obtain ⟨d, hd1, hd2⟩ := dps_at' hd hx
    exact ps i d x σ' H' hd1 hp (dp_same (pk i σ' H' hp) hd2)
end
theorem inU_prod {ns : List (Nat × Int)} {rows : List (List Int)} {s : Sta} (o : OkNs ns) (h : IsRows ns rows) (hs : s ∈ prodP rows) : InU s := by
  obtain ⟨h1, h2⟩ := (prodP_elem _ rows rfl s).mp hs
  rw [h.1] at h1
  refine ⟨h1, fun x hx => ?_⟩
  obtain ⟨i, hi, e⟩ := List.getElem_of_mem hx
  have hr : rows[i]? = some (rows[i]'(by rw [h.1]; omega)) := List.getElem?_eq_getElem _
  exact row_in o (h.2 i _ hr) x (h2 i _ x hr (by rw [List.getElem?_eq_getElem hi, e]))
theorem find_take {α : Type} {f : α → Bool} : ∀ {L : List α} {i : Nat} {s : α}, L[i]? = some s → (∀ j t, j < i → L[j]? = some t → f t = false) → f s = true → L.find? f = some s
  | [], _, _, h, _, _ => by simp at h
  | a :: L, 0, s, h, _, e => by
    simp at h; subst h
    rw [List.find?_cons, e]
  | a :: L, i + 1, s, h, k, e => by
    rw [List.find?_cons, k 0 a (by omega) rfl]
    exact find_take (i := i) (by simpa using h) (fun j t hj ht => k (j + 1) t (by omega) (by simpa using ht)) e
abbrev spDiff (K : PySem.W.Frag) (n : Nat) : Sp := spA K (fun x : Pol × Pol => [encP x.1, encP x.2]) (fun x => (OkP' n x.1 ∧ (nums x.1).length ≤ 100000) ∧ OkP' n x.2 ∧ (nums x.2).length ≤ 100000)
  (fun x d => ∃ rows, IsRows (nums x.1 ++ nums x.2) rows ∧ d = tellD ((prodP rows).find? (differ x.1 x.2)))
abbrev spNamed (K : PySem.W.Frag) (n : Nat) : Sp := spA K (fun x : List Pol × Nat => [.list (x.1.map encP), .str (fname x.2)]) (fun x => ((∀ p ∈ x.1, OkP' n p ∧ (nums p).length ≤ 100000) ∧ x.1.length ≤ 10) ∧ x.2 < 5)
  (fun x d => ∃ row : List Int, d = .list (row.map .int) ∧ row.Pairwise (· < ·) ∧ ∀ k, k ∈ row ↔ (x.2, k) ∈ x.1.flatMap nums)
section
variable {P : Program} {w : World} {K : PySem.W.Frag} {mg : Str → Option Value} {base : Heap}
theorem ok_diff {f fA fT fM : Addr} {fd fdA fdT fdM : FuncData} {n : Nat} (F : Fun K "difference" "difference" (topS 14) f fd) (FA : Fun K "after" "after" (topS 8) fA fdA) (GA : FnOk P w K mg base CX0 (6 + 2 * n) fA fdA ["policy", "state"] (spAfter K n)) (gA : mg "after" = some (.ref fA)) (bA : Binds K fdA ["policy", "state"] [])
    (FT : Fun K "all_states" "all_states" (topS 13) fT fdT) (GT : FnOk P w K mg base CX0 1 fT fdT ["rows"] (spStates K)) (gT : mg "all_states" = some (.ref fT)) (bT : Binds K fdT ["rows"] [])
    (FM : Fun K "samples" "samples" (topS 12) fM fdM) (GM : FnOk P w K mg base CX0 (n + 3 + 1) fM fdM ["policies"] (spSamples K n)) (gM : mg "samples" = some (.ref fM)) (bM : Binds K fdM ["policies"] []) (mSorted : mg "sorted" = none) :
    FnOk P w K mg base CX0 (6 + 2 * n + 1) f fd ["policy", "other"] (spDiff K n) := by
  refine F.ok scDiff (spA_len fun _ => rfl) (fun cdv A outer s H vs Q E hr h => ?_)
  obtain ⟨M, ⟨p, p2⟩, wd, ha, ⟨⟨hp, hz⟩, hp2, hz2⟩, q⟩ := h
  cases ha with
  | cons hv ha =>
  cases ha with
  | cons hw ha =>
  cases ha
  rename_i vp vq
  refine ⟨_, pss_cons (ps_for PassesOwn.never rfl (pi_list (pe_call GT (hr.mono (by omega)) rfl gT FT.kp bT .nil pass0 (pa_cons (pe_call GM (hr.mono (by omega)) rfl gM FM.kp bM .nil pass0 (pa_cons (pe_lst (pa_cons (pv 0) (pa_cons (pv 1) pa_nil))) pa_nil)) pa_nil))) (pg_name (i := 2) scDiff.nd rfl (.inl rfl))
      (pss_one (ps_if (pt_cmpR (op_neD (Nat.lt_of_succ_lt (hu65 hr))) (pe_callB (cr_sortS (hu65 hr)) rfl mSorted (by decide +kernel) (pa_cons (pe_call GA hr rfl gA FA.kp bA .nil pass0 (pa_cons (pv 0) (pa_cons (pv 2) pa_nil))) pa_nil))
          (pe_callB (cr_sortS (hu65 hr)) rfl mSorted (by decide +kernel) (pa_cons (pe_call GA hr rfl gA FA.kp bA .nil pass0 (pa_cons (pv 1) (pa_cons (pv 2) pa_nil))) pa_nil)) (nomark _)) (pss_one (ps_ret (pv 2))) pss_nil)))
    (pss_one (ps_ret pe_non)), ?_⟩
  have ok : (Vw.base H M wd).ok H := Same.refl H
  have hv : (Vw.base H M wd).D K H vp (encP p) := hv
  have hw : (Vw.base H M wd).D K H vq (encP p2) := hw
  have hpp : ∀ z ∈ [p, p2], OkP' n z ∧ (nums z).length ≤ 100000 := fun z hz => by
    rcases List.mem_cons.mp hz with e | hz
    · rw [e]; exact ⟨hp, ‹_›⟩
    · rw [show z = p2 by simpa using hz]; exact ⟨hp2, hz2⟩
  have ons : OkNs (nums p ++ nums p2) := fun q hq => by
    have h2 := okNs_of (ps := [p, p2]) (fun z hz => (hpp z hz).1) q
    simp only [List.flatMap_cons, List.flatMap_nil, List.append_nil] at h2
    exact h2 hq
  refine sq_forP (W := Vw.base H M wd) (F := fun d => ∃ rows, IsRows (nums p ++ nums p2) rows ∧ d = .list ((prodP rows).map encS)) (ev_callP (FL := fun ds => ∃ rows, ds = [.list (rows.map encR)] ∧ IsRows (nums p ++ nums p2) rows) (ea_imp (ea_one (ev_call (x := [p, p2]) (ea_c (ev_lstD (ea_c (ev_var rfl hv) (ea_c (ev_var rfl hw) ea_nil)) (by simp)) ea_nil) ⟨hpp, by simp⟩)) ?_) ?_) ok fun v d H1 fd' r1 dv => ?_
  · rintro ds ⟨d, rfl, rows, rfl, hr⟩
    simp only [List.flatMap_cons, List.flatMap_nil, List.append_nil] at hr
    exact ⟨rows, rfl, hr⟩
  · rintro ds ⟨rows, rfl, hr⟩
    exact ⟨rows, rfl, rows_sm ons hr, fun d e => ⟨rows, hr, e⟩⟩
  · obtain ⟨rows, hrows, rfl⟩ := fd'
    generalize hL : prodP rows = L at dv
    have uL : ∀ s ∈ L, InU s := fun s hs => inU_prod ons hrows (by rw [hL]; exact hs)
    refine ⟨_, rfl, fun i σ' H' => ∃ y, σ' = [some vp, some vq, y] ∧ (Vw.base H M wd).R H1 H' ∧ ∀ j t, j < i → L[j]? = some t → differ p p2 t = false, ⟨none, rfl, Vw.refl r1.2, fun j t h => by omega⟩, fun i σ' H' ⟨_, _, r, _⟩ => r.1, ?_, ?_⟩
    · rintro i d x σ' H' hd ⟨y, rfl, r3, al⟩ dx
      rw [List.getElem?_map] at hd
      cases hsi : L[i]? with
      | none => rw [hsi] at hd; cases hd
      | some si =>
      rw [hsi] at hd
      cases hd
      have us := uL si (List.mem_of_getElem? hsi)
      have rr := rtrans r1 r3
      refine st_if (W := Vw.base H M wd) (B := fun b => b = differ p p2 si) (et_test (ev_neD (G := fun d => d = .bool (differ p p2 si)) (ev_sAfter (ea_c (ev_var rfl (dmono rr hv)) (ea_c (ev_var rfl dx) ea_nil)) hp us) (ev_sAfter (ea_c (ev_var rfl (dmono rr hw)) (ea_c (ev_var rfl dx) ea_nil)) hp2 us) ?_) fun d e => ⟨_, e, rfl⟩) r3.2 (fun hb H4 r4 => ?_) (fun hb H4 r4 => ?_)
      · rintro e1 e2 ⟨A1, rfl, n1, m1⟩ ⟨A2, rfl, n2, m2⟩
        refine ⟨shaped_LS _, shaped_LS _, ?_⟩
        rw [eqv_LS, sorted_cmp n1 m1 n2 m2, Bool.not_not]
      · refine st_ret (W := Vw.base H M wd) (K := K) (ev_var rfl (dmono r4 dx)) r4.2 fun v d H5 e r5 dv5 => q v H5 d ⟨rows, hrows, ?_⟩ r5.2 dv5
        rw [hL, find_take hsi al hb.symm, e]; rfl
      · refine ⟨some x, rfl, rtrans r3 r4, fun j t hj ht => ?_⟩
        by_cases e : j = i
        · subst e
          rw [hsi] at ht
          cases ht; exact hb.symm
        · exact al j t (by omega) ht
    · rintro σ' H' ⟨y, rfl, r3, al⟩
      refine st_ret (W := Vw.base H M wd) (K := K) ev_non r3.2 fun v d H5 e r5 dv5 => q v H5 d ⟨rows, hrows, ?_⟩ r5.2 dv5
      rw [hL, e]
      have : L.find? (differ p p2) = none := List.find?_eq_none.mpr fun t ht => by
        obtain ⟨j, hj, e⟩ := List.getElem_of_mem ht
        rw [al j t (by rw [List.length_map]; exact hj) (by rw [List.getElem?_eq_getElem hj, e])]
        exact Bool.false_ne_true
      rw [this]; rfl
end
end HB
/-! ## HBNamed -/
/-! named_numbers -/
namespace HB
open PySem PySem.Spec PyProof.Rows L2

theorem eqv_N (f g : Nat) (n m : Int) (hf : f < 5) (hg : g < 5) : PyData.eqv (encN (f, n)) (encN (g, m)) = decide ((f, n) = (g, m)) := by
  unfold encN
  rw [PyData.eqv, PyData.eqvAll, PyData.eqvAll, PyData.eqvAll, PyData.eqv, PyData.eqv]
  by_cases e : f = g
  · subst e
    by_cases e2 : n = m
    · subst e2; simp
    · simp [e2]
  · have : fname f ≠ fname g := fun z => e (fname_inj hf hg z)
    simp [e, this]
theorem any_N (f : Nat) (n : Int) (hf : f < 5) : ∀ ns : List (Nat × Int), (∀ q ∈ ns, q.1 < 5) → ((ns.map encN).any fun z => PyData.eqv z (encN (f, n))) = decide ((f, n) ∈ ns)
  | [], _ => by simp
  | (g, m) :: ns, h => by
    rw [List.map_cons, List.any_cons, any_N f n hf ns fun q hq => h q (List.mem_cons_of_mem _ hq), eqv_N g f m n (h _ List.mem_cons_self) hf]
    by_cases e : (g, m) = (f, n)
    · rw [decide_eq_true e, e]; simp
    · rw [decide_eq_false e, Bool.false_or]
      by_cases k : (f, n) ∈ ns
      · rw [decide_eq_true k, decide_eq_true (List.mem_cons_of_mem _ k)]
      · rw [decide_eq_false k, decide_eq_false fun z => (List.mem_cons.mp z).elim (fun q => e q.symm) k]
theorem fname_ok (f : Nat) : PyData.strOk (fname f) = true := by
  unfold fname
  split <;> decide +kernel
theorem lay_Ns : ∀ ns : List (Nat × Int), PyData.canLayAll0 (ns.map encN) = true
  | [] => by simp [PyData.canLayAll0]
  | q :: ns => by rw [List.map_cons, PyData.canLayAll0, lay_Ns ns]; simp [encN, PyData.canLay0, PyData.canLayAll0, fname_ok]
theorem dep_Ns : ∀ ns : List (Nat × Int), PyData.depthAll (ns.map encN) ≤ 1
  | [] => by simp [PyData.depthAll]
  | q :: ns => by
    have h1 := dep_Ns ns
    rw [List.map_cons, PyData.depthAll]
    have : (encN q).depth = 1 := by simp [encN, PyData.depth, PyData.depthAll]
    omega
theorem shaped_N (q : Nat × Int) : SeqAt.shaped (encN q) = true := shaped_of (by simp [encN, PyData.canLay0, PyData.canLayAll0, fname_ok]) (by simp [encN, PyData.depth, PyData.depthAll])
theorem shaped_Ns (ns : List (Nat × Int)) : SeqAt.shaped (.list (ns.map encN)) = true := shaped_of (by rw [PyData.canLay0]; exact lay_Ns ns) (by
  have := dep_Ns ns
  rw [PyData.depth]; omega)
def scAnyOut : Scope := { kind := .function, names := [(".0", .local), ("number", .cell), ("any", .globalImplicit), ("field", .free), ("policies", .free)], isGenerator := false, isCoroutine := false }
theorem cr_anyK {X : Cx} (K : PySem.W.Frag) (hc : X.calm = true) (hK : X.K = K := by rfl) : CallR X (.builtin "any") (rAny K) := hK ▸ cr_any hc
theorem ev_ixP {W : Vw} {K : PySem.W.Frag} {σ : L2.St} {H : Hp} {ta tb : TE} {F G : PyData → Prop} {i : Int} (ha : EvP W K ta σ H F) (hb : EvD W K tb σ H (.int i)) (k : ∀ e, F e → ∃ ds d, e = .list ds ∧ atI ds i = some d ∧ G d) : EvP W K (tOp (rIxL K) ta tb) σ H G :=
  ev_op ha hb fun x y d1 d2 H1 f1 f2 a dx dy Q q => by
    subst f2
    obtain ⟨ds, d, rfl, e, g⟩ := k d1 f1
    obtain ⟨p, xs, rfl, hs, hd⟩ := d_lst dx
    obtain rfl := d_int dy
    obtain ⟨w, e, dw⟩ := dps_atI hd e
    exact ⟨p, xs, i, w, rfl, rfl, off_sub.seq hs, e, q w H1 d g (Vw.refl a.2) dw⟩
section
variable {P : Program} {w : World} {K : PySem.W.Frag} {mg : Str → Option Value} {base : Heap}
theorem ok_named {f fN fP fM : Addr} {fd fdN fdP fdM : FuncData} {n : Nat} (F : Fun K "named_numbers" "named_numbers" (topS 15) f fd) (FN : Fun K "numbers_in" "numbers_in" (topS 11) fN fdN) (GN : FnOk P w K mg base CX0 (n + 3) fN fdN ["policy"] (spNI K n)) (gN : mg "numbers_in" = some (.ref fN)) (bN : Binds K fdN ["policy"] [])
    (FP : Fun K "place_of" "place_of" (topS 4) fP fdP) (GP : FnOk P w K mg base CX0 1 fP fdP ["field"] (spPlace K)) (gP : mg "place_of" = some (.ref fP)) (bP : Binds K fdP ["field"] [])
    (FM : Fun K "samples" "samples" (topS 12) fM fdM) (GM : FnOk P w K mg base CX0 (n + 3 + 1) fM fdM ["policies"] (spSamples K n)) (gM : mg "samples" = some (.ref fM)) (bM : Binds K fdM ["policies"] []) (mAny : mg "any" = none) :
    FnOk P w K mg base CX0 (n + 3 + 1 + 1) f fd ["policies", "field"] (spNamed K n) := by
  refine F.ok scNamed (spA_len fun _ => rfl) (fun cdv A outer s H vs Q E hr h => ?_)
  obtain ⟨M, ⟨ps, fl⟩, wd, ha, ⟨⟨hp, hpl⟩, hfl⟩, q⟩ := h
  cases ha with
  | cons hv ha =>
  cases ha with
  | cons hw ha =>
  cases ha
  rename_i vp vf
  refine ⟨_, pss_cons (ps_set (i := 2) scNamed.nd rfl (.inl rfl) (pe_call GP (hr.mono (by omega)) rfl gP FP.kp bP .nil pass0 (pa_cons (pv 1) pa_nil)))
    (pss_cons (ps_set (i := 3) scNamed.nd rfl (.inl rfl) (pe_ix ix_list (pe_call GM hr rfl gM FM.kp bM .nil pass0 (pa_cons (pv 0) pa_nil)) (pv 2) (fun _ _ => rfl)))
    (pss_one (ps_ret (pe_lc (own := [("number", 4)]) (g := gName 4) rfl scNamed.nd (pi_list (pv 3))
      (blkOk_by (N := ["policies", "field", "at", "row", "number", "policy"]) (sc := defScope (topS 15)) (by decide +kernel)) (fun _ _ _ _ _ => pg_name (i := 4) scNamed.nd rfl (Or.inr rfl))
      (fun _ _ _ _ _ => pts_one (pt_val (pe_callB (cr_anyK K rfl) rfl mAny (by decide +kernel) (pa_cons (pe_lc (own := [("policy", 5)]) (g := gName 5) rfl scNamed.nd (pi_listK K (pv 0))
        (blkOk_by (N := ["policies", "field", "at", "row", "number", "policy"]) (sc := relS scAnyOut (defScope (topS 15))) (by decide +kernel)) (fun _ _ _ _ _ => pg_name (i := 5) scNamed.nd rfl (Or.inl rfl)) (fun _ _ _ _ _ => pts_nil)
        (fun _ _ _ _ _ => pe_cmpR (op_inK K (hu65 hr)) (pe_tup (pa_cons (pv 1) (pa_cons (pv 4) pa_nil))) (pe_call GN (hr.mono (by omega)) rfl gN FN.kp bN .nil pass0 (pa_cons (pv 5) pa_nil)) (by rfl))) pa_nil)))) (fun _ _ _ _ _ => pv 4))))), ?_⟩
  have ok : (Vw.base H M wd).ok H := Same.refl H
  have hv : (Vw.base H M wd).D K H vp (.list (ps.map encP)) := hv
  have hp : ∀ p ∈ ps, OkP' n p ∧ (nums p).length ≤ 100000 := hp
  have hpl : ps.length ≤ 10 := hpl
  have hfl : fl < 5 := hfl
  have ons : OkNs (ps.flatMap nums) := okNs_of fun p h => (hp p h).1
  refine sq_asg (W := Vw.base H M wd) (K := K) (F := fun d => d = .int (fl : Int)) (ev_call (x := fl) (ea_c (ev_var rfl hw) ea_nil) hfl) ok fun va d H1 e r1 da => ?_
  subst e
  obtain rfl := d_int da
  refine sq_asg (W := Vw.base H M wd) (K := K) (F := fun d => ∃ row, d = encR row ∧ IsRow (ps.flatMap nums) fl row) (ev_ixP (i := (fl : Int)) (ev_call (x := ps) (ea_c (ev_var rfl (dmono r1 hv)) ea_nil) ⟨hp, hpl⟩) (ev_var rfl (.int _)) ?_) r1.2 fun vr d H2 fd2 r2 dr => ?_
  · rintro d ⟨rows, rfl, hl, hr⟩
    have hr5 : rows[fl]? = some (rows[fl]'(by omega)) := List.getElem?_eq_getElem _
    exact ⟨_, _, rfl, atI_nat (by rw [List.getElem?_map, hr5]; rfl), _, rfl, hr fl _ hr5⟩
  · obtain ⟨row, rfl, hrow⟩ := fd2
    have dr : (Vw.base H M wd).D K H2 vr (.list (row.map .int)) := dr
    have r12 := rtrans r1 r2
    have l16 := row_len ons hrow
    refine st_ret (W := Vw.base H M wd) (K := K) (ev_lc (ds := row.map .int) (ev_var rfl dr) (fun _ => rfl) (fun i out => out = ((row.take i).filter fun k => decide ((fl, k) ∈ ps.flatMap nums)).map .int) rfl (fun i out e => ?_) (fun i out d pi hd Dl acc H' x ic dx => ?_)) r2.2 ?_
    · have h1 := List.length_filter_le (fun k => decide ((fl, k) ∈ ps.flatMap nums)) (row.take i)
      rw [List.length_take] at h1
      rw [e, List.length_map, sizeLine_eq]
      omega
    · rw [List.getElem?_map] at hd
      cases hki : row[i]? with
      | none => rw [hki] at hd; cases hd
      | some k =>
      rw [hki] at hd
      cases hd
      obtain rfl := d_int dx
      refine ⟨fun b => b = decide ((fl, k) ∈ ps.flatMap nums), et_BD (ev_is (ev_any (bs := ps.map fun p => decide ((fl, k) ∈ nums p)) ?_) ?_), fun hb => ⟨fun e => e = .int k, ev_var rfl (.int _), fun e he => ?_⟩, fun hb => ?_⟩
      · refine ev_imp (ev_lc (W := (Vw.base H M wd).plus Dl acc) (ds := ps.map encP) (ev_var rfl (dp_same ic.sm (dmono r12 hv))) (fun _ => rfl) (fun j out => out = ((ps.take j).map fun p => decide ((fl, k) ∈ nums p)).map .bool) rfl (fun j out e => ?_) (fun j out d pi2 hd2 Dl2 acc2 H2' x2 ic2 dx2 => ?_)) ?_
        · rw [e, List.length_map, List.length_map, List.length_take]; exact small1000 (by omega)
        · rw [List.getElem?_map] at hd2
          cases hpj : ps[j]? with
          | none => rw [hpj] at hd2; cases hd2
          | some p =>
          rw [hpj] at hd2
          cases hd2
          have hpo := hp p (List.mem_of_getElem? hpj)
          have pk : ∀ q ∈ nums p, q.1 < 5 := fun q hq => (ons q (List.mem_flatMap.mpr ⟨p, List.mem_of_getElem? hpj, hq⟩)).1
          refine ⟨fun b => b = true, et_yes, fun _ => ⟨fun e => e = .bool (decide ((fl, k) ∈ nums p)), ?_, fun e he => ?_⟩, fun e => by cases e⟩
          · refine ev_inD (d := encN (fl, k)) (F2 := fun d => d = .list ((nums p).map encN)) (ev_tupD (ea_c (ev_var rfl (dp_same (ic.sm.trans ic2.sm) (dmono r12 hw))) (ea_c (ev_var rfl (.int _)) ea_nil)) (by simp)) (ev_call (x := p) (ea_c (ev_var rfl dx2) ea_nil) hpo) ?_
            rintro e rfl
            refine ⟨_, rfl, shaped_N _, shaped_Ns _, ?_⟩
            rw [any_N fl k hfl _ pk]
          · rw [pi2, he, List.take_add_one, hpj]
            show _ = List.map _ (List.map _ (_ ++ [p]))
            rw [List.map_append, List.map_append]; rfl
        · rintro d ⟨out, rfl, rfl⟩
          rw [List.length_map, List.take_length]
      · rw [List.any_map]
        congr 1
        rw [Bool.eq_iff_iff, List.any_eq_true, decide_eq_true_iff, List.mem_flatMap]
        simp
      · rw [pi, he, List.take_add_one, hki, List.filter_append, List.map_append]
        show _ = _ ++ (List.filter (fun z => decide ((fl, z) ∈ ps.flatMap nums)) [k]).map PyData.int
        rw [List.filter_cons, if_pos hb.symm]; rfl
      · rw [pi, List.take_add_one, hki, List.filter_append, List.map_append]
        show _ = _ ++ (List.filter (fun z => decide ((fl, z) ∈ ps.flatMap nums)) [k]).map PyData.int
        rw [List.filter_cons, if_neg (by rw [← hb]; exact Bool.false_ne_true)]
        show _ = _ ++ []
        rw [List.append_nil]
    · rintro v d H3 ⟨out, rfl, rfl⟩ r3 dv
      rw [List.length_map, List.take_length] at dv
      refine q v H3 _ ⟨_, rfl, List.Pairwise.filter _ hrow.1, fun k => ?_⟩ r3.2 dv
      rw [List.mem_filter, decide_eq_true_iff]
      exact ⟨fun z => z.2, fun z => ⟨(hrow.2 k).mpr (.inl z), z⟩⟩
end
end HB
/-! ## HBDraw -/
/-! the law's state: a list that holds a list of cells and a seed; what draws leave -/
namespace HB
open PySem PySem.Spec PyProof.Rows L2

/-- the state's two lists -/
def two (a c : Addr) : Addr → Bool := fun b => b == a || b == c
structure LS (a c : Addr) (H : Hp) : Prop where
  ne : a ≠ c
  ex : ∃ (m : Int) (ns : List Int), H a = some (.lst [.ref c, .int m]) ∧ H c = some (.lst (ns.map .int)) ∧ (∀ n ∈ ns, 0 ≤ n) ∧ 0 ≤ m ∧ m < 2147483648 ∧ ns.length ≤ 100000
theorem LS.up {a c : Addr} {H H' : Hp} (h : LS a c H) (e : Same H H') : LS a c H' := by
  obtain ⟨m, ns, h1, h2, r⟩ := h.ex
  exact ⟨h.ne, m, ns, e _ _ h1, e _ _ h2, r⟩
theorem LS.there {a c b : Addr} {H : Hp} (h : LS a c H) (e : two a c b = true) : H b ≠ none := by
  obtain ⟨m, ns, h1, h2, r⟩ := h.ex
  have : b = a ∨ b = c := by simpa [two] using e
  rcases this with z | z <;> rw [z]
  · rw [h1]; simp
  · rw [h2]; simp
theorem two_a {a c : Addr} : two a c a = true := by simp [two]
theorem two_c {a c : Addr} : two a c c = true := by simp [two]
theorem two_ne {a c b : Addr} (h : two a c b = false) : b ≠ a ∧ b ≠ c := by
  simpa [two] using h
/-- the view of one that draws; M: what may change around it -/
def Vw.law (B : Hp) (M : Addr → Bool) (a c : Addr) (hM : ∀ b, two a c b = true → M b = true) (wd : ∀ b, M b = true → B b ≠ none) : Vw where
  M := M
  ok := fun H => Same (off (two a c) B) (off (two a c) H) ∧ LS a c H
  up := fun _ _ h e => ⟨h.1.trans (off_same e), h.2.up e⟩
  wd := fun H b h e => by
    cases q : two a c b with
    | true => exact h.2.there q
    | false =>
      obtain ⟨o, ho⟩ := Option.ne_none_iff_exists'.mp (wd b e)
      have := (off_some (h.1 b o (off_of q ho))).2
      rw [this]; simp
  wr := fun H1 H2 D o h1 e h2 => by
    have hD : two a c D = false := by
      cases q : two a c D with
      | false => rfl
      | true => exact absurd e (h1.2.there q)
    have hB : B D = none := by
      cases q : B D with
      | none => rfl
      | some o => rw [(off_some (h1.1 D o (off_of hD q))).2] at e; cases e
    obtain ⟨d1, d2⟩ := two_ne hD
    refine ⟨fun b o' h => ?_, ?_⟩
    · have hb : b ≠ D := fun z => by
        have := (off_some h).2
        rw [z, hB] at this; cases this
      obtain ⟨e1, e2⟩ := off_some (h2.1 b o' h)
      exact off_of e1 (by rw [upd_ne hb]; exact e2)
    · obtain ⟨m, ns, k1, k2, r⟩ := h2.2.ex
      exact ⟨h2.2.ne, m, ns, by rw [upd_ne (Ne.symm d1)]; exact k1, by rw [upd_ne (Ne.symm d2)]; exact k2, r⟩
/-- a view that stands draws -/
structure Lawful (W : Vw) (a c : Addr) : Prop where
  sub : ∀ b, two a c b = true → W.M b = true
  ls : ∀ H, W.ok H → LS a c H
  st : ∀ H H', W.ok H → Same (off (two a c) H) (off (two a c) H') → LS a c H' → W.ok H'
theorem Lawful.law {B : Hp} {M : Addr → Bool} {a c : Addr} {hM : ∀ b, two a c b = true → M b = true} {wd : ∀ b, M b = true → B b ≠ none} : Lawful (Vw.law B M a c hM wd) a c := ⟨hM, fun _ h => h.2, fun _ _ h e l => ⟨h.1.trans e, l⟩⟩
theorem Lawful.plus {W : Vw} {a c D : Addr} {xs : List V} (h : Lawful W a c) {H1 : Hp} (ok : W.ok H1) (n : H1 D = none) : Lawful (W.plus D xs) a c := by
  have hD : two a c D = false := by
    cases q : two a c D with
    | false => rfl
    | true => exact absurd n ((h.ls _ ok).there q)
  refine ⟨fun b e => ?_, fun H k => h.ls H k.1, fun H H' k e l => ⟨h.st H H' k.1 e l, (off_some (e D _ (off_of hD k.2))).2⟩⟩
  show (W.M b || b == D) = true
  rw [h.sub b e]; rfl
theorem Lawful.R {W : Vw} {a c : Addr} (h : Lawful W a c) {H H' : Hp} (ok : W.ok H) (e : Same (off (two a c) H) (off (two a c) H')) (l : LS a c H') : W.R H H' := by
  refine ⟨fun b o k => ?_, h.st H H' ok e l⟩
  obtain ⟨k1, k2⟩ := off_some k
  have hb : two a c b = false := by
    cases q : two a c b with
    | false => rfl
    | true => rw [h.sub b q] at k1; cases k1
  exact off_of k1 (off_some (e b o (off_of hb k2))).2
/-- the promise of a def that is handed the state first -/
def spL {α : Type} (K : PySem.W.Frag) (args : α → List PyData) (pre : α → Prop) (post : α → PyData → Prop) : Sp := fun vs H Q _ =>
  ∃ (M : Addr → Bool) (a c : Addr) (x : α) (rest : List V), vs = .ref a :: rest ∧ LS a c H ∧ (∀ b, two a c b = true → M b = true) ∧ (∀ b, M b = true → H b ≠ none) ∧ DpAll K (off M H) rest (args x) ∧ pre x ∧
    ∀ v H' d, post x d → Same (off (two a c) H) (off (two a c) H') → LS a c H' → Dp K (off M H') v d → Q v H'
theorem spL_len {α : Type} {K : PySem.W.Frag} {args : α → List PyData} {pre : α → Prop} {post : α → PyData → Prop} {n : Nat} (h : ∀ x, (args x).length + 1 = n) : ∀ vs H Q E, spL K args pre post vs H Q E → vs.length = n := fun vs H Q E ⟨M, a, c, x, rest, e, _, _, _, hd, _⟩ => by
  rw [e, List.length_cons, dps_len hd, h x]
section
variable {W : Vw} {K : PySem.W.Frag} {σ : L2.St} {H : Hp} {tas : TA} {a c : Addr}
theorem ev_callL {α : Type} {args : α → List PyData} {pre : α → Prop} {post : α → PyData → Prop} {E : XK} {i : Nat} (L : Lawful W a c) (hi : σ[i]? = some (some (.ref a))) (x : α) (h : EvA W K tas σ H (fun ds => ds = args x)) (hp : pre x) : EvP W K (tCall (spL K args pre post) [] E (tCons (tVar i) tas)) σ H (post x) := fun H1 r Q q =>
  ⟨.ref a, hi, h H1 r _ fun vs H2 ds f r2 dv => by
    subst f
    refine ⟨W.M, a, c, x, vs, by simp, L.ls _ r2.2, L.sub, fun b => W.wd H2 b r2.2, dv, hp, fun v H3 d g e l dd => ?_⟩
    exact q v H3 d g (rtrans r2 (L.R r2.2 e l)) dd⟩
end
/-! ### what leaves the heap alone -/
section
variable {K : PySem.W.Frag} {σ : L2.St} {H : Hp} {ta tb te : TE} {x y v : V} {i j : Int} {a b : Bool} {t u : TT} {D : Ends} {t1 t2 w : TS}
def Pu (te : TE) (σ : L2.St) (H : Hp) (v : V) : Prop := ∀ Q : VK, Q v H → te σ H Q
def PuT (t : TT) (σ : L2.St) (H : Hp) (b : Bool) : Prop := ∀ Q : Bool → Hp → Prop, Q b H → t σ H Q
theorem pu_var {n : Nat} (h : σ[n]? = some (some v)) : Pu (tVar n) σ H v := fun Q q => ⟨v, h, q⟩
theorem pu_c : Pu (tC v) σ H v := fun Q q => q
theorem pu_I0 {g : Int → Int → V} (ha : Pu ta σ H (.int i)) (hb : Pu tb σ H (.int j)) : Pu (tOp (rI0 g) ta tb) σ H (g i j) := fun Q q => ha _ (hb _ ⟨i, j, rfl, rfl, q⟩)
theorem pu_I {c : Int → Int → Prop} {g : Int → Int → V} (ha : Pu ta σ H (.int i)) (hb : Pu tb σ H (.int j)) (hc : c i j) : Pu (tOp (rI c g) ta tb) σ H (g i j) := fun Q q => ha _ (hb _ ⟨i, j, rfl, rfl, hc, q⟩)
theorem pu_eq (ha : Pu ta σ H (.int i)) (hb : Pu tb σ H (.int j)) : Pu (tOp rEq ta tb) σ H (.bl (decide (i = j))) := fun Q q => ha _ (hb _ ⟨rfl, by
  rw [show decide (V.int i = V.int j) = decide (i = j) by by_cases e : i = j <;> simp [e]]; exact q⟩)
theorem pu_ix {l : Addr} {xs : List V} (ha : Pu ta σ H (.ref l)) (h : H l = some (.lst xs)) (e : atI xs i = some v) (hb : Pu tb σ H (.int i)) : Pu (tOp (rIxL K) ta tb) σ H v := fun Q q => ha _ (hb _ ⟨l, xs, i, v, rfl, rfl, SqL.of h, e, q⟩)
theorem pu_len {l : Addr} {xs : List V} (ha : Pu ta σ H (.ref l)) (h : H l = some (.lst xs)) : Pu (tCB (fun xs H Q => ∃ p ys, xs = [.ref p] ∧ (SqL K H p ys ∨ SqT K H p ys) ∧ Q (.int ys.length) H) (tCons ta tNil)) σ H (.int xs.length) := fun Q q => ha _ ⟨l, xs, rfl, .inl (SqL.of h), q⟩
theorem pu_int (ha : Pu ta σ H (.int i)) : Pu (tCB (fun xs H Q => (∃ i, xs = [V.int i] ∧ Q (.int i) H) ∨ ∃ k, xs = [V.bl k] ∧ Q (.int (if k then 1 else 0)) H) (tCons ta tNil)) σ H (.int i) := fun Q q => ha _ (.inl ⟨i, rfl, q⟩)
theorem pu_t (h : Pu te σ H (.bl a)) : PuT (tTest te) σ H a := fun Q q => h _ ⟨a, rfl, q⟩
theorem pu_and (h : PuT t σ H a) (k : a = true → PuT u σ H b) : PuT (tAnd t u) σ H (a && b) := fun Q q => h _ (by
  cases a with
  | true => exact k rfl Q q
  | false => exact q)
theorem pu_if {c : Bool} (h : PuT t σ H c) (k1 : c = true → t1 { D with nx := w D } σ H) (k2 : c = false → t2 { D with nx := w D } σ H) : tSeq (tIfS t t1 t2) w D σ H := h _ (by
  cases c with
  | true => exact k1 rfl
  | false => exact k2 rfl)
theorem pu_if1 {c : Bool} (h : PuT t σ H c) (k1 : c = true → t1 D σ H) (k2 : c = false → t2 D σ H) : tIfS t t1 t2 D σ H := h _ (by
  cases c with
  | true => exact k1 rfl
  | false => exact k2 rfl)
theorem pu_set {n : Nat} (h : Pu te σ H v) (k : w D (σ.set n (some v)) H) : tSeq (tAsg te (gName n)) w D σ H := h _ k
theorem pu_setIx {l : Addr} {xs : List V} {n : Nat} (h : Pu te σ H v) (ho : Pu ta σ H (.ref l)) (hi : Pu tb σ H (.int i)) (hl : H l = some (.lst xs)) (e : ixN xs.length i = some n) (k : w D σ (upd H l (.lst (xs.set n v)))) : tSeq (tAsg te (gSub ta tb rSetL)) w D σ H :=
  h _ (ho _ (hi _ ⟨l, xs, i, n, rfl, rfl, hl, e, k⟩))
theorem ixN_0 {n : Nat} (h : 0 < n) : ixN n 0 = some 0 := by
  unfold ixN
  simp [h]
theorem pu_ret (h : Pu te σ H v) (k : D.rt v H) : tRet te D σ H := h _ k
end
abbrev spDraw (K : PySem.W.Frag) : Sp := spL K (fun n : Nat => [.int n]) (fun n => 1 ≤ n ∧ n ≤ 1000) (fun n d => ∃ r : Nat, r < n ∧ d = .int r)
theorem scDraw : FnScope ["_law_state_here", "_law_many", "_law_cells", "_law_k", "_law_amount", "_law_mixed"] ["_law_state_here", "_law_many"] (defScope (topS 18)) := ⟨rfl, rfl, rfl, by decide +kernel, rfl, by decide +kernel, by decide +kernel⟩
section
variable {P : Program} {w : World} {K : PySem.W.Frag} {mg : Str → Option Value} {base : Heap}
theorem ok_draw {f : Addr} {fd : FuncData} (F : Fun K "_law_draw" "_law_draw" (topS 18) f fd) (mLen : mg "len" = none) (mRange : mg "range" = none) (mInt : mg "int" = none) : FnOk P w K mg base CX0 1 f fd ["_law_state_here", "_law_many"] (spDraw K) := by
  refine F.ok scDraw (spL_len fun _ => rfl) (fun cdv A outer s H vs Q E hr h => ?_)
  obtain ⟨M, a, c, n, rest, rfl, ls, hM, wd, ha, ⟨hn1, hn2⟩, q⟩ := h
  cases ha with
  | cons hv ha =>
  cases ha
  obtain rfl := d_int hv
  refine ⟨_, pss_cons (ps_if (pt_cmpR op_lt (pv 1) pe_int (nomark _)) (pss_one (ps_ret pe_int)) pss_nil)
    (pss_cons (ps_set (i := 2) scDraw.nd rfl (.inl rfl) (pe_ix ix_list (pv 0) pe_int (fun _ _ => rfl)))
    (pss_cons (ps_for PassesOwn.never rfl (pi_range1 rfl mRange (pa_cons (pe_callB call_len_seq rfl mLen PySem.boot_len (pa_cons (pv 2) pa_nil)) pa_nil)) (pg_name (i := 3) scDraw.nd rfl (.inl rfl))
      (pss_one (ps_if (PW.pt (pw_and (pt_cmpR op_eq (pe_ix ix_list (pv 2) pe_int (fun _ _ => rfl)) pe_int (nomark _)) (pw_and1 (pt_cmpR op_gt (pe_callB call_len_seq rfl mLen PySem.boot_len (pa_cons (pv 2) pa_nil)) pe_int (nomark _)))))
        (pss_one (ps_expr (pe_bm PySem.F.plainAttrs_list PySem.F.slot_list_pop PySem.F.type_list_pop mt_popAt (pv 2) (pa_cons pe_int pa_nil)))) pss_nil)))
    (pss_cons (ps_if (PW.pt (pw_and (pt_cmpR op_gt (pe_callB call_len_seq rfl mLen PySem.boot_len (pa_cons (pv 2) pa_nil)) pe_int (nomark _)) (pw_and1 (pt_cmpR op_gt (pe_ix ix_list (pv 2) pe_int (fun _ _ => rfl)) pe_int (nomark _)))))
        (pss_cons (ps_set (i := 4) scDraw.nd rfl (.inl rfl) (pe_ix ix_list (pv 2) pe_int (fun _ _ => rfl)))
        (pss_cons (ps_asg (pe_op op_fdiv (pv 4) (pv 1)) (pg_sub (pv 2) pe_int set_list))
        (pss_one (ps_ret (pe_op op_mod (pe_callTy call_int1 rfl mInt (by decide +kernel) (pa_cons (pv 4) pa_nil)) (pv 1)))))) pss_nil)
    (pss_cons (ps_set (i := 5) scDraw.nd rfl (.inl rfl) (pe_op op_mod (pe_callTy call_int1 rfl mInt (by decide +kernel) (pa_cons (pe_op op_add (pe_op op_mul (pe_ix ix_list (pv 0) pe_int (fun _ _ => rfl)) pe_int) pe_int) pa_nil)) pe_int))
    (pss_cons (ps_asg (pv 5) (pg_sub (pv 0) pe_int set_list))
    (pss_one (ps_ret (pe_op op_mod (pe_callTy call_int1 rfl mInt (by decide +kernel) (pa_cons (pe_op op_fdiv (pv 5) pe_int) pa_nil)) (pv 1))))))))), ?_⟩
  have hn1 : 1 ≤ n := hn1
  have hn2 : n ≤ 1000 := hn2
  obtain ⟨m, ns, Ha, Hc, nn, m0, m1, nl⟩ := ls.ex
  have nac := ls.ne
  refine pu_if (c := decide ((n : Int) < 1)) (pu_t (pu_I0 (pu_var rfl) pu_c)) (fun e => absurd (of_decide_eq_true e) (by omega)) fun _ => ?_
  refine pu_set (v := .ref c) (pu_ix (pu_var rfl) Ha rfl pu_c) ?_
  have same2 : ∀ {H1 : Hp} {b : Addr} {o : HO}, two a c b = true → off (two a c) (upd H1 b o) = off (two a c) H1 := fun hb => off_upd hb
  refine ⟨.ref c, rfl, c, ns.map .int, rfl, .inl (SqL.of Hc), (ns.map V.int).length, rfl, by rw [List.length_map]; omega, by rw [List.length_map]; omega, ?_⟩
  let Pv : Nat → L2.St → Hp → Prop := fun i σ' H' => ∃ (y3 : Option V) (ns' : List Int), σ' = [some (.ref a), some (.int n), some (.ref c), y3, none, none] ∧ Same (off (two a c) H) (off (two a c) H') ∧ H' a = some (.lst [.ref c, .int m]) ∧ H' c = some (.lst (ns'.map .int)) ∧ (∀ n ∈ ns', 0 ≤ n) ∧ ns'.length ≤ 100000 ∧ (ns.length ≠ 0 → ns'.length ≠ 0)
  rw [show (((ns.map V.int).length : Int)).toNat = ns.length by rw [List.length_map, Int.toNat_natCast]]
  refine for_range (lo := 0) (n := ns.length) Pv ⟨none, ns, rfl, Same.refl _, Ha, Hc, nn, nl, id⟩ ?_ ?_
  · rintro i σ' H' hi ⟨y3, ns', rfl, sm, ha', hc', nn', nl', ne'⟩
    show tIfS _ _ _ _ _ _
    have hne : ns'.length ≠ 0 := ne' (by omega)
    obtain ⟨z, zs, rfl⟩ : ∃ z zs, ns' = z :: zs := by
      cases ns' with
      | nil => exact absurd rfl hne
      | cons z zs => exact ⟨z, zs, rfl⟩
    have t1 : PuT (tTest (tOp rEq (tOp (rIxL K) (tVar 2) (tC (.int 0))) (tC (.int 0)))) [some (.ref a), some (.int n), some (.ref c), some (.int (0 + (i : Int))), none, none] H' (decide (z = 0)) := pu_t (pu_eq (pu_ix (pu_var rfl) hc' (atI_nat (j := 0) rfl) pu_c) pu_c)
    have t2 : PuT (tTest (tOp (rI0 fun i j => .bl (decide (j < i))) (tCB (fun xs H Q => ∃ p ys, xs = [V.ref p] ∧ (SqL K H p ys ∨ SqT K H p ys) ∧ Q (.int ys.length) H) (tCons (tVar 2) tNil)) (tC (.int 1)))) [some (.ref a), some (.int n), some (.ref c), some (.int (0 + (i : Int))), none, none] H' (decide ((1 : Int) < (((z :: zs).map V.int).length : Nat))) := pu_t (pu_I0 (g := fun i j => .bl (decide (j < i))) (pu_len (pu_var rfl) hc') pu_c)
    refine pu_if1 (pu_and t1 fun _ => t2) (fun e => ?_) (fun e => ?_)
    · -- the first cell goes
      refine ⟨.ref c, rfl, .inl ⟨rfl, _, SqL.of hc'⟩, c, (z :: zs).map .int, 0, 0, .int z, rfl, rfl, hc', by decide, by decide, ?_, rfl, ?_⟩
      · simp [seqIndex?]
      · rw [Bool.and_eq_true] at e
        have e2 := of_decide_eq_true e.2
        rw [List.length_map, List.length_cons] at e2
        refine ⟨_, zs, rfl, by rw [same2 two_c]; exact sm, by rw [upd_ne nac]; exact ha', ?_, fun n hn => nn' n (List.mem_cons_of_mem _ hn), by rw [List.length_cons] at nl'; omega, fun _ => by omega⟩
        rw [upd_same]; rfl
    · exact ⟨_, z :: zs, rfl, sm, ha', hc', nn', nl', ne'⟩
  · rintro σ' H' ⟨y3, ns', rfl, sm, ha', hc', nn', nl', ne'⟩
    have tl : PuT (tTest (tOp (rI0 fun i j => .bl (decide (j < i))) (tCB (fun xs H Q => ∃ p ys, xs = [V.ref p] ∧ (SqL K H p ys ∨ SqT K H p ys) ∧ Q (.int ys.length) H) (tCons (tVar 2) tNil)) (tC (.int 0)))) [some (.ref a), some (.int n), some (.ref c), y3, none, none] H' (decide ((0 : Int) < ((ns'.map V.int).length : Nat))) := pu_t (pu_I0 (g := fun i j => .bl (decide (j < i))) (pu_len (pu_var rfl) hc') pu_c)
    have tz : decide ((0 : Int) < ((ns'.map V.int).length : Nat)) = true → PuT (tTest (tOp (rI0 fun i j => .bl (decide (j < i))) (tOp (rIxL K) (tVar 2) (tC (.int 0))) (tC (.int 0)))) [some (.ref a), some (.int n), some (.ref c), y3, none, none] H' (decide (0 < ns'.headD 0)) := fun e => by
      have e2 := of_decide_eq_true e
      cases ns' with
      | nil => simp at e2
      | cons z zs => exact pu_t (pu_I0 (g := fun i j => .bl (decide (j < i))) (pu_ix (pu_var rfl) hc' (atI_nat (j := 0) rfl) pu_c) pu_c)
    refine pu_if (pu_and tl tz) (fun e => ?_) (fun _ => ?_)
    · rw [Bool.and_eq_true] at e
      obtain ⟨z, zs, rfl⟩ : ∃ z zs, ns' = z :: zs := by
        cases ns' with
        | nil => simp at e
        | cons z zs => exact ⟨z, zs, rfl⟩
      have hz : 0 < z := of_decide_eq_true e.2
      refine pu_set (v := .int z) (pu_ix (pu_var rfl) hc' (atI_nat (j := 0) rfl) pu_c) ?_
      refine pu_setIx (n := 0) (pu_I (g := fun i j => .int (i / j)) (pu_var rfl) (pu_var rfl) ⟨by omega, by omega⟩) (pu_var rfl) pu_c hc' (ixN_0 (by simp)) ?_
      refine pu_ret (pu_I (g := fun i j => .int (i % j)) (pu_int (pu_var rfl)) (pu_var rfl) (by show (0 : Int) < n; omega)) ?_
      refine q (.int (z % (n : Int))) _ (.int (z % (n : Int))) ⟨(z % (n : Int)).toNat, ?_, ?_⟩ (by rw [same2 two_c]; exact sm) ⟨nac, m, (z / (n : Int)) :: zs, by rw [upd_ne nac]; exact ha', by rw [upd_same]; rfl, fun k hk => ?_, m0, m1, ?_⟩ (.int _)
      · have := Int.emod_nonneg z (b := (n : Int)) (by omega)
        have := Int.emod_lt_of_pos z (b := (n : Int)) (by omega)
        omega
      · have := Int.emod_nonneg z (b := (n : Int)) (by omega)
        rw [Int.toNat_of_nonneg this]
      · rcases List.mem_cons.mp hk with e | hk
        · rw [e]; exact Int.ediv_nonneg (by omega) (by omega)
        · exact nn' k (List.mem_cons_of_mem _ hk)
      · rw [List.length_cons] at nl' ⊢; omega
    · have hmod : (0 : Int) < 2147483647 := by decide
      refine pu_set (v := .int ((m * 48271 + 12345) % 2147483647)) (pu_I (g := fun i j => .int (i % j)) (pu_int (pu_I0 (g := fun i j => .int (i + j)) (pu_I (g := fun i j => .int (i * j)) (pu_ix (pu_var rfl) ha' rfl pu_c) pu_c (.inr ⟨by decide, by decide⟩)) pu_c)) pu_c hmod) ?_
      have b0 := Int.emod_nonneg (m * 48271 + 12345) (b := 2147483647) (by decide)
      have b1 := Int.emod_lt_of_pos (m * 48271 + 12345) hmod
      generalize (m * 48271 + 12345) % 2147483647 = m' at b0 b1
      refine pu_setIx (n := 1) (pu_var rfl) (pu_var rfl) pu_c ha' rfl ?_
      refine pu_ret (pu_I (g := fun i j => .int (i % j)) (pu_int (pu_I (g := fun i j => .int (i / j)) (pu_var rfl) pu_c ⟨by decide, by decide⟩)) (pu_var rfl) (by show (0 : Int) < n; omega)) ?_
      refine q (.int (m' / 64 % (n : Int))) _ (.int (m' / 64 % (n : Int))) ⟨(m' / 64 % (n : Int)).toNat, ?_, ?_⟩ (by rw [same2 two_a]; exact sm) ⟨nac, m', ns', by rw [upd_same]; rfl, by rw [upd_ne (Ne.symm nac)]; exact hc', nn', b0, by omega, nl'⟩ (.int _)
      · have := Int.emod_nonneg (m' / 64) (b := (n : Int)) (by omega)
        have := Int.emod_lt_of_pos (m' / 64) (b := (n : Int)) (by omega)
        omega
      · have := Int.emod_nonneg (m' / 64) (b := (n : Int)) (by omega)
        rw [Int.toNat_of_nonneg this]
end
end HB
/-! ## HBInit -/
/-! _law_state -/
namespace HB
open PySem PySem.Spec PyProof.Rows L2

theorem scState : FnScope ["_law_script", "_law_seed", "_law_cell"] ["_law_script"] (defScope (topS 17)) := ⟨rfl, rfl, rfl, by decide +kernel, rfl, by decide +kernel, by decide +kernel⟩
def spState (K : PySem.W.Frag) : Sp := fun vs H Q _ => ∃ (p : Addr) (ns : List Int), vs = [.ref p] ∧ SqL K H p (ns.map V.int) ∧ ns.length ≤ 100000 ∧ ∀ a c H', Same H H' → H a = none → H c = none → LS a c H' → Q (.ref a) H'
def absI (i : Int) : Int := if i < 0 then -i else i
section
variable {P : Program} {w : World} {K : PySem.W.Frag} {mg : Str → Option Value} {base : Heap}
theorem ok_state {f : Addr} {fd : FuncData} (F : Fun K "_law_state" "_law_state" (topS 17) f fd) (mAbs : mg "abs" = none) (mInt : mg "int" = none) : FnOk P w K mg base CX0 1 f fd ["_law_script"] (spState K) := by
  refine F.ok scState (fun vs H Q E ⟨p, ns, e, _⟩ => by rw [e]; rfl) (fun cdv A outer s H vs Q E hr h => ?_)
  obtain ⟨p, ns, rfl, hs, hl, q⟩ := h
  refine ⟨_, pss_cons (ps_set (i := 1) scState.nd rfl (.inl rfl) pe_int)
    (pss_cons (ps_for PassesOwn.never rfl (pi_list (pv 0)) (pg_name (i := 2) scState.nd rfl (.inl rfl))
      (pss_one (ps_set (i := 1) scState.nd rfl (.inl rfl) (pe_op op_mod (pe_callTy call_int1 rfl mInt (by decide +kernel) (pa_cons (pe_op op_add (pe_op op_mul (pv 1) pe_int) (pv 2)) pa_nil)) pe_int))))
    (pss_one (ps_ret (pe_lst (pa_cons (pe_lc (own := [("_law_cell", 2)]) (g := gName 2) (tt := tYes) rfl scState.nd (pi_list (pv 0))
        (blkOk_by (N := ["_law_script", "_law_seed", "_law_cell"]) (sc := defScope (topS 17)) (by decide +kernel)) (fun _ _ _ _ _ => pg_name (i := 2) scState.nd rfl (Or.inl rfl)) (fun _ _ _ _ _ => pts_nil) (fun _ _ _ _ _ => pe_callB call_abs rfl mAbs (by decide +kernel) (pa_cons (pv 2) pa_nil)))
      (pa_cons (pe_op op_add (pv 1) pe_int) pa_nil)))))), ?_⟩
  refine pu_set (v := .int 11) pu_c ?_
  refine ⟨.ref p, rfl, p, rfl, ⟨_, hs⟩, ?_⟩
  refine for_list (K := K) (xs := ns.map .int) (fun i σ' H' => ∃ (m : Int) (y : Option V), σ' = [some (.ref p), some (.int m), y] ∧ H' = H ∧ 0 ≤ m ∧ m < 1000003) ⟨11, none, rfl, rfl, by decide, by decide⟩ (fun i σ' H' _ ⟨_, _, _, e, _⟩ => by rw [e]; exact hs) ?_ ?_
  · rintro i x σ' H' hx ⟨m, y, rfl, rfl, m0, m1⟩
    rw [List.getElem?_map] at hx
    cases hi : ns[i]? with
    | none => rw [hi] at hx; cases hx
    | some n =>
    rw [hi] at hx
    cases hx
    show tAsg _ _ _ _ _
    refine (pu_I (g := fun i j => .int (i % j)) (pu_int (pu_I0 (g := fun i j => .int (i + j)) (pu_I (g := fun i j => .int (i * j)) (pu_var rfl) pu_c (.inr ⟨by decide, by decide⟩)) (pu_var rfl))) pu_c (by decide)) _ ?_
    exact ⟨(m * 37 + n) % 1000003, _, rfl, rfl, Int.emod_nonneg _ (by decide), Int.emod_lt_of_pos _ (by decide)⟩
  · rintro σ' H' ⟨m, y, rfl, rfl, m0, m1⟩
    refine ⟨.ref p, rfl, p, rfl, ⟨_, hs⟩, fun c hc => ?_⟩
    refine lc_list (K := K) (xs := ns.map .int) (fun i H1 => H1 = upd H' c (.lst (((ns.take i).map absI).map .int))) rfl (fun i H1 _ e => ?_) (fun i x H1 hx e => ⟨rfl, ?_⟩) (fun H1 e => ?_)
    · rw [e]; exact (same_new hc).seq hs
    · subst e
      rw [List.getElem?_map] at hx
      cases hi : ns[i]? with
      | none => rw [hi] at hx; cases hx
      | some n =>
      rw [hi] at hx
      cases hx
      unfold tYes
      show (if (true : Bool) = true then _ else _)
      rw [if_pos rfl]
      refine ⟨.int n, rfl, n, rfl, _, upd_same, ?_, ?_⟩
      · rw [List.length_map, List.length_map, List.length_take, sizeLine_eq]; omega
      · rw [upd_upd, List.take_add_one, hi]
        show _ = upd H' c (.lst (((ns.take i ++ [n]).map absI).map V.int))
        rw [List.map_append, List.map_append]; rfl
    · subst e
      rw [List.length_map, List.take_length]
      refine (pu_I0 (g := fun i j => .int (i + j)) (pu_var rfl) pu_c) _ ?_
      refine ⟨(by show 2 ≤ sizeLine; decide), fun a ha => ?_⟩
      have hac : a ≠ c := fun z => by rw [z, upd_same] at ha; cases ha
      have ha0 : H' a = none := by rw [upd_ne hac] at ha; exact ha
      refine q a c _ ((same_new hc).trans (same_new ha)) ha0 hc ⟨hac, m + 1, ns.map absI, upd_same, ?_, fun k hk => ?_, by omega, by omega, by rw [List.length_map]; exact hl⟩
      · rw [upd_ne (Ne.symm hac), upd_same]
      · obtain ⟨n, _, rfl⟩ := List.mem_map.mp hk
        unfold absI; split <;> omega
end
end HB
/-! ## HBLTest -/
/-! _law_test -/
namespace HB
open PySem PySem.Spec PyProof.Rows L2

theorem scLTest : FnScope ["_law_state_here", "_law_deep", "_law_kind", "_law_field", "_law_parts", "_law_k"] ["_law_state_here", "_law_deep"] (defScope (topS 19)) := ⟨rfl, rfl, rfl, by decide +kernel, rfl, by decide +kernel, by decide +kernel⟩
/-- a drawn test of depth d -/
def DrawnT (d : Nat) (e : PyData) : Prop := ∃ t, e = encT t ∧ OkT d t ∧ (numsT t).length ≤ 3 ^ d
abbrev spLTest (K : PySem.W.Frag) (n : Nat) : Sp := spL K (fun d : Nat => [.int d]) (fun d => d + 1 ≤ n) DrawnT
/-- the fields as the draws list them -/
def drawnF : Nat → Nat
  | 0 => 1 | 1 => 2 | 2 => 3 | 3 => 4 | _ => 0
def drawnD : List PyData := [.str "port", .str "src", .str "dst", .str "kind", .str "switch"]
theorem drawn_at {r : Nat} (h : r < 5) : drawnD[r]? = some (.str (fname (drawnF r))) := by
  match r, h with
  | 0, _ => rfl
  | 1, _ => rfl
  | 2, _ => rfl
  | 3, _ => rfl
  | 4, _ => rfl
theorem drawnF_lt (r : Nat) : drawnF r < 5 := by unfold drawnF; split <;> decide
section
variable {W : Vw} {K : PySem.W.Frag} {σ : L2.St} {H : Hp} {a c : Addr}
/-- a draw -/
theorem ev_draw {E : XK} {i : Nat} {n : Nat} {te : TE} (L : Lawful W a c) (hi : σ[i]? = some (some (.ref a))) (h : EvD W K te σ H (.int n)) (h1 : 1 ≤ n ∧ n ≤ 1000) : EvP W K (tCall (spDraw K) [] E (tCons (tVar i) (tCons te tNil))) σ H (fun d => ∃ r : Nat, r < n ∧ d = .int r) :=
  ev_callL L hi n (ea_c h ea_nil) h1
theorem et_eqI {ta tb : TE} {i j : Int} (ha : EvD W K ta σ H (.int i)) (hb : EvD W K tb σ H (.int j)) : EvB W (tTest (tOp rEq ta tb)) σ H (decide (i = j)) := et_testD (ev_eqI ha hb fun e1 e2 a1 a2 => ⟨i, j, a1, a2, rfl⟩)
theorem et_ltI {ta tb : TE} {i j : Int} (ha : EvD W K ta σ H (.int i)) (hb : EvD W K tb σ H (.int j)) : EvB W (tTest (tOp (rI0 fun i j => .bl (decide (i < j))) ta tb)) σ H (decide (i < j)) := et_testD (ev_I0 (gd := fun i j => .bool (decide (i < j))) (fun i j H => .bl _) ha hb fun e1 e2 a1 a2 => ⟨i, j, a1, a2, rfl⟩)
theorem et_gtI {ta tb : TE} {i j : Int} (ha : EvD W K ta σ H (.int i)) (hb : EvD W K tb σ H (.int j)) : EvB W (tTest (tOp (rI0 fun i j => .bl (decide (j < i))) ta tb)) σ H (decide (j < i)) := et_testD (ev_I0 (gd := fun i j => .bool (decide (j < i))) (fun i j H => .bl _) ha hb fun e1 e2 a1 a2 => ⟨i, j, a1, a2, rfl⟩)
theorem ev_addI {ta tb : TE} {F1 F2 G : PyData → Prop} (ha : EvP W K ta σ H F1) (hb : EvP W K tb σ H F2) (k : ∀ e1 e2, F1 e1 → F2 e2 → ∃ i j : Int, e1 = .int i ∧ e2 = .int j ∧ G (.int (i + j))) : EvP W K (tOp (rI0 fun i j => .int (i + j)) ta tb) σ H G := ev_I0 (gd := fun i j => .int (i + j)) (fun i j H => .int _) ha hb k
theorem ev_subI {ta tb : TE} {F1 F2 G : PyData → Prop} (ha : EvP W K ta σ H F1) (hb : EvP W K tb σ H F2) (k : ∀ e1 e2, F1 e1 → F2 e2 → ∃ i j : Int, e1 = .int i ∧ e2 = .int j ∧ G (.int (i - j))) : EvP W K (tOp (rI0 fun i j => .int (i - j)) ta tb) σ H G := ev_I0 (gd := fun i j => .int (i - j)) (fun i j H => .int _) ha hb k
theorem ev_tag2 {x : Str} {te : TE} {F : PyData → Prop} (h : EvP W K te σ H F) : EvP W K (tTup (tCons (tC (.str x)) (tCons te tNil))) σ H (fun d => ∃ e, d = tagD x [e] ∧ F e) :=
  ev_imp (ev_tup (ea_cons (F := fun d => d = .str x) ev_str (ea_one h)) fun ds ⟨d, r, e, f, g⟩ => by obtain ⟨d2, rfl, _⟩ := g; rw [e]; simp) fun d ⟨ds, e, d1, r, e2, f, d2, g1, g2⟩ => ⟨d2, by rw [e, e2, f, g1], g2⟩
theorem ev_tag3 {x : Str} {te tf : TE} {F G : PyData → Prop} (h : EvP W K te σ H F) (k : EvP W K tf σ H G) : EvP W K (tTup (tCons (tC (.str x)) (tCons te (tCons tf tNil)))) σ H (fun d => ∃ e f, d = tagD x [e, f] ∧ F e ∧ G f) :=
  ev_imp (ev_tup (ea_cons (F := fun d => d = .str x) ev_str (ea_cons h (ea_one k))) fun ds ⟨d, r, e, f, d1, r1, e1, _, d2, e2, _⟩ => by rw [e, e1, e2]; simp) fun d ⟨ds, e, d1, r, e2, f, d2, r2, e3, f2, d3, e4, f3⟩ => ⟨d2, d3, by rw [e, e2, f, e3, e4], f2, f3⟩
end
section
variable {P : Program} {w : World} {K : PySem.W.Frag} {mg : Str → Option Value} {base : Heap}
theorem ok_ltest {f fD : Addr} {fd fdD : FuncData} (F : Fun K "_law_test" "_law_test" (topS 19) f fd) (g : mg "_law_test" = some (.ref f)) (b : Binds K fd ["_law_state_here", "_law_deep"] [])
    (FD : Fun K "_law_draw" "_law_draw" (topS 18) fD fdD) (GD : FnOk P w K mg base CX0 1 fD fdD ["_law_state_here", "_law_many"] (spDraw K)) (gD : mg "_law_draw" = some (.ref fD)) (bD : Binds K fdD ["_law_state_here", "_law_many"] [])
    (mRange : mg "range" = none) : ∀ n, FnOk P w K mg base CX0 (n + 2) f fd ["_law_state_here", "_law_deep"] (spLTest K n)
  | 0 => fn_dead fun vs H Q E ⟨M, a, c, x, _, _, _, _, _, _, hm, _⟩ => by omega
  | n + 1 => by
    have GS := ok_ltest F g b FD GD gD bD mRange n
    refine F.ok scLTest (spL_len fun _ => rfl) (fun cdv A outer s H vs Q E hr h => ?_)
    obtain ⟨M, a, c, d, rest, rfl, ls, hM, wd, ha, hd, q⟩ := h
    cases ha with
    | cons hv ha =>
    cases ha
    obtain rfl := d_int hv
    refine ⟨_, pss_cons (ps_set (i := 2) scLTest.nd rfl (.inl rfl) (pe_call GD (hr.mono (by omega)) rfl gD FD.kp bD .nil pass0 (pa_cons (pv 0) (pa_cons pe_int pa_nil))))
      (pss_cons (ps_if (PW.pt (pw_or (pt_cmpR op_eq (pv 1) pe_int (nomark _)) (pw_or1 (pt_cmpR op_lt (pv 2) pe_int (nomark _)))))
        (pss_cons (ps_set (i := 3) scLTest.nd rfl (.inl rfl) (pe_ix ix_list (pe_lst (pa_cons pe_str (pa_cons pe_str (pa_cons pe_str (pa_cons pe_str (pa_cons pe_str pa_nil)))))) (pe_call GD (hr.mono (by omega)) rfl gD FD.kp bD .nil pass0 (pa_cons (pv 0) (pa_cons pe_int pa_nil))) (fun _ _ => rfl)))
        (pss_cons (ps_if (pt_cmpR op_eq (pv 3) pe_str (nomark _)) (pss_one (ps_ret (pe_tup (pa_cons pe_str (pa_cons (pv 3) (pa_cons (pe_op op_add pe_int (pe_call GD (hr.mono (by omega)) rfl gD FD.kp bD .nil pass0 (pa_cons (pv 0) (pa_cons pe_int pa_nil)))) pa_nil)))))) pss_nil)
        (pss_one (ps_ret (pe_tup (pa_cons pe_str (pa_cons (pv 3) (pa_cons (pe_ix ix_list (pe_lst (pa_cons pe_int (pa_cons pe_int (pa_cons pe_int (pa_cons pe_int pa_nil))))) (pe_call GD (hr.mono (by omega)) rfl gD FD.kp bD .nil pass0 (pa_cons (pv 0) (pa_cons pe_int pa_nil))) (fun _ _ => rfl)) pa_nil)))))))) pss_nil)
      (pss_cons (ps_if (pt_cmpR op_lt (pv 2) pe_int (nomark _)) (pss_one (ps_ret (pe_tup (pa_cons pe_str (pa_cons (pe_call GS hr rfl g F.kp b .nil pass0 (pa_cons (pv 0) (pa_cons (pe_op op_sub (pv 1) pe_int) pa_nil))) pa_nil))))) pss_nil)
      (pss_cons (ps_setLc (i := 4) (own := [("_law_k", 5)]) (g := gName 5) (tt := tYes) rfl scLTest.nd rfl rfl (sw_true rfl rfl rfl (by decide +kernel)) (pi_range1 rfl mRange (pa_cons (pe_call GD (hr.mono (by omega)) rfl gD FD.kp bD .nil pass0 (pa_cons (pv 0) (pa_cons pe_int pa_nil))) pa_nil))
          (blkOk_by (N := ["_law_state_here", "_law_deep", "_law_kind", "_law_field", "_law_parts", "_law_k"]) (sc := defScope (topS 19)) (by decide +kernel)) (fun _ _ _ _ _ => pg_name (i := 5) scLTest.nd rfl (Or.inl rfl)) (fun _ _ _ _ _ => pts_nil)
          (fun _ _ _ _ _ => pe_call GS hr rfl g F.kp b .nil pass0 (pa_cons (pv 0) (pa_cons (pe_op op_sub (pv 1) pe_int) pa_nil))))
      (pss_one (ps_ret (pe_tup (pa_cons (pe_ix ix_list (pe_lst (pa_cons pe_str (pa_cons pe_str pa_nil))) (pe_op op_sub (pv 2) pe_int) (fun _ _ => rfl)) (pa_cons (pv 4) pa_nil)))))))), ?_⟩
    have hd : d + 1 ≤ n + 1 := hd
    have L : Lawful (Vw.law H M a c hM wd) a c := Lawful.law
    have ok : (Vw.law H M a c hM wd).ok H := ⟨Same.refl _, ls⟩
    have fin : ∀ {v H1 e}, (Vw.law H M a c hM wd).ok H1 → (Vw.law H M a c hM wd).D K H1 v e → DrawnT d e → Q v H1 := fun k dv hde => q _ _ _ hde k.1 k.2 dv
    refine sq_asg (W := Vw.law H M a c hM wd) (K := K) (ev_draw (n := 8) L rfl ev_int (by decide)) ok fun vk dk H1 fk r1 dv1 => ?_
    obtain ⟨k, hk, rfl⟩ := fk
    obtain rfl := d_int dv1
    refine sq_if (W := Vw.law H M a c hM wd) (et_or (et_eqI (K := K) (j := 0) (ev_var rfl (.int (d : Int))) ev_int) fun _ => et_ltI (K := K) (j := 4) (ev_var rfl (.int (k : Int))) ev_int) r1.2 (fun _ H2 r2 => ?_) (fun hb H2 r2 => ?_)
    · -- a field's number
      refine sq_asg (W := Vw.law H M a c hM wd) (K := K) (F := fun e => ∃ r, r < 5 ∧ e = .str (fname (drawnF r))) (ev_ixAny (ds := drawnD) (F2 := fun e => ∃ r : Nat, r < 5 ∧ e = .int r) (ev_lstD (ea_c ev_str (ea_c ev_str (ea_c ev_str (ea_c ev_str (ea_c ev_str ea_nil))))) (by show 5 ≤ 1000; decide)) (ev_draw (n := 5) L rfl ev_int (by decide)) ?_) r2.2 fun vf df H3 ff r3 dvf => ?_
      · rintro e ⟨r, hr, rfl⟩
        exact ⟨(r : Int), _, rfl, atI_nat (drawn_at hr), r, hr, rfl⟩
      · obtain ⟨r, hr5, rfl⟩ := ff
        obtain rfl := d_str dvf
        have hf5 := drawnF_lt r
        generalize drawnF r = fl at hf5 dvf
        have isT : ∀ (m : Int), 0 ≤ m → m ≤ 15 → DrawnT d (tagD "is" [.str (fname fl), .int m]) := fun m h0 h1 => ⟨.is fl m, by rw [encT], .is ⟨hf5, h0, h1⟩, by rw [numsT, List.length_singleton]; exact Nat.one_le_pow _ _ (by decide)⟩
        refine sq_if (W := Vw.law H M a c hM wd) (et_testD (ev_eqS (K := K) (x := fname fl) (y := "switch") (ev_var rfl (.str _)) ev_str)) r3.2 (fun _ H4 r4 => ?_) (fun _ H4 r4 => ?_)
        · refine st_ret (W := Vw.law H M a c hM wd) (K := K) (ev_tag3 (F := fun e => e = .str (fname fl)) (G := fun e => ∃ m : Int, 0 ≤ m ∧ m ≤ 15 ∧ e = .int m) (ev_var rfl (.str _)) (ev_addI (F1 := fun e => e = .int 1) ev_int (ev_draw (n := 3) L rfl ev_int (by decide)) ?_)) r4.2 fun v e H5 he r5 dv => ?_
          · rintro e1 e2 rfl ⟨r, hr, rfl⟩
            exact ⟨_, _, rfl, rfl, 1 + (r : Int), by omega, by omega, rfl⟩
          · obtain ⟨e1, e2, rfl, rfl, m, m0, m1, rfl⟩ := he
            exact fin r5.2 dv (isT m m0 m1)
        · refine st_ret (W := Vw.law H M a c hM wd) (K := K) (ev_tag3 (F := fun e => e = .str (fname fl)) (G := fun e => ∃ m : Int, 0 ≤ m ∧ m ≤ 15 ∧ e = .int m) (ev_var rfl (.str _)) (ev_ixAny (ds := [.int 0, .int 1, .int 2, .int 6]) (F2 := fun e => ∃ r : Nat, r < 4 ∧ e = .int r) (ev_lstD (ea_c ev_int (ea_c ev_int (ea_c ev_int (ea_c ev_int ea_nil)))) (by simp)) (ev_draw (n := 4) L rfl ev_int (by decide)) ?_)) r4.2 fun v e H5 he r5 dv => ?_
          · rintro e ⟨r, hr, rfl⟩
            match r, hr with
            | 0, _ => exact ⟨0, _, rfl, rfl, 0, by decide, by decide, rfl⟩
            | 1, _ => exact ⟨1, _, rfl, rfl, 1, by decide, by decide, rfl⟩
            | 2, _ => exact ⟨2, _, rfl, rfl, 2, by decide, by decide, rfl⟩
            | 3, _ => exact ⟨3, _, rfl, rfl, 6, by decide, by decide, rfl⟩
          · obtain ⟨e1, e2, rfl, rfl, m, m0, m1, rfl⟩ := he
            exact fin r5.2 dv (isT m m0 m1)
    · -- deeper ones
      have hd0 : d ≠ 0 ∧ ¬ (k : Int) < 4 := by
        rcases hb with ⟨h, _⟩ | ⟨h1, h2⟩
        · cases h
        · refine ⟨fun z => ?_, fun z => ?_⟩
          · rw [z] at h1; simp at h1
          · rw [decide_eq_true z] at h2; cases h2
      obtain ⟨d', rfl⟩ : ∃ d', d = d' + 1 := ⟨d - 1, by omega⟩
      have sub : ∀ {W : Vw} {σ : L2.St} {H' : Hp}, σ[1]? = some (some (.int ((d' + 1 : Nat) : Int))) → EvD W K (tOp (rI0 fun i j => .int (i - j)) (tVar 1) (tC (.int 1))) σ H' (.int (d' : Nat)) := fun h => ev_subI (F1 := fun e => e = .int ((d' + 1 : Nat) : Int)) (F2 := fun e => e = .int 1) (ev_var h (.int _)) ev_int fun e1 e2 a1 a2 => ⟨_, _, a1, a2, by congr 1; omega⟩
      refine sq_if (W := Vw.law H M a c hM wd) (et_ltI (K := K) (j := 6) (ev_var rfl (.int (k : Int))) ev_int) r2.2 (fun _ H3 r3 => ?_) (fun h6 H3 r3 => ?_)
      · refine st_ret (W := Vw.law H M a c hM wd) (K := K) (ev_tag2 (F := DrawnT d') (ev_callL L rfl d' (ea_c (sub rfl) ea_nil) (by show d' + 1 ≤ n; omega))) r3.2 fun v e H4 he r4 dv => ?_
        obtain ⟨e, rfl, t, rfl, ot, lt⟩ := he
        exact fin r4.2 dv ⟨.no t, by rw [encT], .no ot, by rw [numsT, Nat.pow_succ]; omega⟩
      · have k67 : ¬ (k : Int) < 6 := fun z => by rw [decide_eq_true z] at h6; cases h6
        refine sq_asg (W := Vw.law H M a c hM wd) (K := K) (F := fun e => ∃ ts : List Tst, e = .list (ts.map encT) ∧ ts.length ≤ 3 ∧ ∀ t ∈ ts, OkT d' t ∧ (numsT t).length ≤ 3 ^ d') (ev_imp (ev_lcR (FL := fun ds => ∃ r : Nat, r < 4 ∧ ds = [.int r]) (ea_imp (ea_one (ev_draw (n := 4) L rfl ev_int (by decide))) fun ds ⟨e, e1, r, hr, e2⟩ => ⟨r, hr, by rw [e1, e2]⟩) (fun ds ⟨r, hr, e⟩ => ⟨r, e, by omega⟩) (fun _ => rfl)
          (fun i out => i ≤ 1000 ∧ ∃ ts : List Tst, out = ts.map encT ∧ ts.length = i ∧ ∀ t ∈ ts, OkT d' t ∧ (numsT t).length ≤ 3 ^ d') ⟨by decide, [], rfl, rfl, fun _ h => by cases h⟩ (fun i out ⟨hi, ts, e, hl, _⟩ => by rw [e, List.length_map]; exact small1000 (by omega)) (fun i out pi hi Dl acc H' x ic dx => ?_)) ?_) r3.2 fun v e H4 he r4 dv => ?_
        · obtain ⟨_, ts, rfl, hl, ht⟩ := pi
          obtain ⟨H1', ok1', n1'⟩ := ic.nw
          refine ⟨fun b => b = true, et_yes, fun _ => ⟨DrawnT d', ev_callL (L.plus ok1' n1') rfl d' (ea_c (sub rfl) ea_nil) (by show d' + 1 ≤ n; omega), fun e ⟨t, e1, o1, l1⟩ => ⟨by omega, ts ++ [t], by rw [List.map_append, e1]; rfl, by rw [List.length_append, hl]; rfl, fun t' h' => ?_⟩⟩, fun e => by cases e⟩
          rcases List.mem_append.mp h' with h' | h'
          · exact ht t' h'
          · rw [show t' = t by simpa using h']; exact ⟨o1, l1⟩
        · rintro e ⟨out, m, rfl, ⟨r, hr, er⟩, _, ts, rfl, hl, ht⟩
          have : m = r := by
            have := List.cons.inj er
            have := PyData.int.inj this.1
            omega
          exact ⟨ts, rfl, by omega, ht⟩
        · obtain ⟨ts, rfl, hl, ht⟩ := he
          have lens : (numsTs ts).length ≤ 3 ^ (d' + 1) := by
            rw [numsTs_eq, Nat.pow_succ]
            have : (ts.flatMap numsT).length ≤ ts.length * 3 ^ d' := by
              clear hl dv
              induction ts with
              | nil => simp
              | cons t ts ih =>
                rw [List.flatMap_cons, List.length_append, List.length_cons, Nat.succ_mul]
                have := ih fun t' h' => ht t' (List.mem_cons_of_mem _ h')
                have := (ht t List.mem_cons_self).2
                omega
            have h3 : ts.length * 3 ^ d' ≤ 3 * 3 ^ d' := Nat.mul_le_mul_right _ hl
            omega
          refine st_ret (W := Vw.law H M a c hM wd) (K := K) (F := fun e => e = tagD "all" [.list (ts.map encT)] ∨ e = tagD "any" [.list (ts.map encT)]) (ev_imp (ev_tup (ea_cons (F := fun e => e = .str "all" ∨ e = .str "any") (ev_ixAny (ds := [.str "all", .str "any"]) (F2 := fun e => e = .int ((k : Int) - 6)) (ev_lstD (ea_c ev_str (ea_c ev_str ea_nil)) (by simp)) (ev_subI (F1 := fun e => e = .int (k : Int)) (F2 := fun e => e = .int 6) (ev_var rfl (.int _)) ev_int fun e1 e2 a1 a2 => ⟨_, _, a1, a2, rfl⟩) ?_) (ea_c (ev_var rfl dv) ea_nil)) ?_) ?_) r4.2 fun v e H5 he r5 dv => ?_
          · rintro e rfl
            have : k = 6 ∨ k = 7 := by omega
            rcases this with rfl | rfl
            · exact ⟨0, _, rfl, rfl, .inl rfl⟩
            · exact ⟨1, _, rfl, rfl, .inr rfl⟩
          · rintro ds ⟨d1, r, rfl, _, rfl⟩
            simp
          · rintro e ⟨ds, rfl, d1, r, rfl, h | h, rfl⟩
            · rw [h]; exact .inl rfl
            · rw [h]; exact .inr rfl
          · rcases he with rfl | rfl
            · exact fin r5.2 dv ⟨.all ts, by rw [encT, encTs_eq], .all hl fun t h => (ht t h).1, by rw [numsT]; exact lens⟩
            · exact fin r5.2 dv ⟨.any ts, by rw [encT, encTs_eq], .any hl fun t h => (ht t h).1, by rw [numsT]; exact lens⟩
end
end HB
/-! ## HBLPol -/
/-! _law_policy -/
namespace HB
open PySem PySem.Spec PyProof.Rows L2

theorem scLPol : FnScope ["_law_state_here", "_law_deep", "_law_fields", "_law_kind", "_law_field", "_law_parts", "_law_k"] ["_law_state_here", "_law_deep", "_law_fields"] (defScope (topS 20)) := ⟨rfl, rfl, rfl, by decide +kernel, rfl, by decide +kernel, by decide +kernel⟩
def DrawnP (d : Nat) (e : PyData) : Prop := ∃ p, e = encP p ∧ OkP d p ∧ (nums p).length ≤ 3 ^ (d + 1)
abbrev spLPol (K : PySem.W.Frag) (n : Nat) : Sp := spL K (fun d : Nat => [.int d, .list drawnD]) (fun d => d + 1 ≤ n) DrawnP
section
variable {W : Vw} {K : PySem.W.Frag} {σ : L2.St} {H : Hp} {ta tb : TE} {F G : PyData → Prop}
theorem ev_len (h : EvP W K ta σ H F) (k : ∀ e, F e → ∃ ds, (e = .list ds ∨ e = .tuple ds) ∧ G (.int (ds.length : Nat))) : EvP W K (tCB (fun xs H Q => ∃ p ys, xs = [.ref p] ∧ (SqL K H p ys ∨ SqT K H p ys) ∧ Q (.int ys.length) H) (tCons ta tNil)) σ H G := fun H0 a0 Q q => h H0 a0 _ fun v H1 d f a1 dv => by
  obtain ⟨ds, e, g⟩ := k d f
  rcases e with rfl | rfl
  · obtain ⟨p, xs, rfl, hs, hd⟩ := d_lst dv
    refine ⟨p, xs, rfl, .inl (off_sub.seq hs), ?_⟩
    rw [dps_len hd]
    exact q _ H1 _ g a1 (.int _)
  · obtain ⟨p, xs, rfl, hs, hd⟩ := d_tup dv
    refine ⟨p, xs, rfl, .inr (same_t off_sub hs), ?_⟩
    rw [dps_len hd]
    exact q _ H1 _ g a1 (.int _)
theorem ev_intc (h : EvP W K ta σ H F) (k : ∀ e, F e → ∃ i, e = .int i ∧ G (.int i)) : EvP W K (tCB (fun xs H Q => (∃ i, xs = [V.int i] ∧ Q (.int i) H) ∨ ∃ k, xs = [V.bl k] ∧ Q (.int (if k then 1 else 0)) H) (tCons ta tNil)) σ H G := fun H0 a0 Q q => h H0 a0 _ fun v H1 d f a1 dv => by
  obtain ⟨i, rfl, g⟩ := k d f
  obtain rfl := d_int dv
  exact .inl ⟨i, rfl, q _ H1 _ g a1 (.int _)⟩
theorem ev_modI {F1 F2 : PyData → Prop} (ha : EvP W K ta σ H F1) (hb : EvP W K tb σ H F2) (k : ∀ e1 e2, F1 e1 → F2 e2 → ∃ i j : Int, e1 = .int i ∧ e2 = .int j ∧ 0 < j ∧ G (.int (i % j))) : EvP W K (tOp (rI (fun _ j => 0 < j) fun i j => .int (i % j)) ta tb) σ H G := ev_I (gd := fun i j => .int (i % j)) (fun i j H => .int _) ha hb k
end
theorem flat_le {α β : Type} {f : α → List β} {m : Nat} : ∀ {ts : List α}, (∀ t ∈ ts, (f t).length ≤ m) → (ts.flatMap f).length ≤ ts.length * m
  | [], _ => by simp
  | t :: ts, h => by
    rw [List.flatMap_cons, List.length_append, List.length_cons, Nat.succ_mul]
    have := flat_le fun t' h' => h t' (List.mem_cons_of_mem _ h')
    have := h t List.mem_cons_self
    omega
section
variable {P : Program} {w : World} {K : PySem.W.Frag} {mg : Str → Option Value} {base : Heap}
theorem ok_lpol {f fD fT : Addr} {fd fdD fdT : FuncData} (F : Fun K "_law_policy" "_law_policy" (topS 20) f fd) (g : mg "_law_policy" = some (.ref f)) (b : Binds K fd ["_law_state_here", "_law_deep", "_law_fields"] [])
    (FD : Fun K "_law_draw" "_law_draw" (topS 18) fD fdD) (GD : FnOk P w K mg base CX0 1 fD fdD ["_law_state_here", "_law_many"] (spDraw K)) (gD : mg "_law_draw" = some (.ref fD)) (bD : Binds K fdD ["_law_state_here", "_law_many"] [])
    (FT : Fun K "_law_test" "_law_test" (topS 19) fT fdT) (GT : FnOk P w K mg base CX0 4 fT fdT ["_law_state_here", "_law_deep"] (spLTest K 2)) (gT : mg "_law_test" = some (.ref fT)) (bT : Binds K fdT ["_law_state_here", "_law_deep"] [])
    (mRange : mg "range" = none) (mLen : mg "len" = none) (mInt : mg "int" = none) : ∀ n, FnOk P w K mg base CX0 (n + 4) f fd ["_law_state_here", "_law_deep", "_law_fields"] (spLPol K n)
  | 0 => fn_dead fun vs H Q E ⟨M, a, c, x, _, _, _, _, _, _, hm, _⟩ => by omega
  | n + 1 => by
    have GS := ok_lpol F g b FD GD gD bD FT GT gT bT mRange mLen mInt n
    refine F.ok scLPol (spL_len fun _ => rfl) (fun cdv A outer s H vs Q E hr h => ?_)
    obtain ⟨M, a, c, d, rest, rfl, ls, hM, wd, ha, hd, q⟩ := h
    cases ha with
    | cons hv ha =>
    cases ha with
    | cons hw ha =>
    cases ha
    obtain rfl := d_int hv
    rename_i vf
    refine ⟨_, pss_cons (ps_set (i := 3) scLPol.nd rfl (.inl rfl) (pe_call GD (hr.mono (by omega)) rfl gD FD.kp bD .nil pass0 (pa_cons (pv 0) (pa_cons pe_int pa_nil))))
      (pss_cons (ps_if (PW.pt (pw_or (pt_cmpR op_eq (pv 1) pe_int (nomark _)) (pw_or1 (pt_cmpR op_lt (pv 3) pe_int (nomark _)))))
        (pss_cons (ps_if (pt_cmpR op_eq (pe_call GD (hr.mono (by omega)) rfl gD FD.kp bD .nil pass0 (pa_cons (pv 0) (pa_cons pe_int pa_nil))) pe_int (nomark _))
          (pss_one (ps_ret (pe_tup (pa_cons pe_str (pa_cons (pe_call GT (hr.mono (by omega)) rfl gT FT.kp bT .nil pass0 (pa_cons (pv 0) (pa_cons pe_int pa_nil))) pa_nil))))) pss_nil)
        (pss_cons (ps_set (i := 4) scLPol.nd rfl (.inl rfl) (pe_ix ix_list (pv 2) (pe_call GD (hr.mono (by omega)) rfl gD FD.kp bD .nil pass0 (pa_cons (pv 0) (pa_cons (pe_callB call_len_seq rfl mLen PySem.boot_len (pa_cons (pv 2) pa_nil)) pa_nil))) (fun _ _ => rfl)))
        (pss_one (ps_ret (pe_tup (pa_cons pe_str (pa_cons (pv 4) (pa_cons (pe_ifExp (pt_cmpR op_ne (pv 4) pe_str (nomark _)) (pe_ix ix_list (pe_lst (pa_cons pe_int (pa_cons pe_int (pa_cons pe_int (pa_cons pe_int pa_nil))))) (pe_call GD (hr.mono (by omega)) rfl gD FD.kp bD .nil pass0 (pa_cons (pv 0) (pa_cons pe_int pa_nil))) (fun _ _ => rfl))
          (pe_op op_add pe_int (pe_call GD (hr.mono (by omega)) rfl gD FD.kp bD .nil pass0 (pa_cons (pv 0) (pa_cons pe_int pa_nil))))) pa_nil)))))))) pss_nil)
      (pss_cons (ps_if (pt_cmpR op_eq (pv 3) pe_int (nomark _)) (pss_one (ps_ret (pe_tup (pa_cons pe_str (pa_cons (pe_call GS hr rfl g F.kp b .nil pass0 (pa_cons (pv 0) (pa_cons (pe_op op_sub (pv 1) pe_int) (pa_cons (pv 2) pa_nil)))) pa_nil))))) pss_nil)
      (pss_cons (ps_setLc (i := 5) (own := [("_law_k", 6)]) (g := gName 6) (tt := tYes) rfl scLPol.nd rfl rfl (sw_true rfl rfl rfl (by decide +kernel)) (pi_range1 rfl mRange (pa_cons (pe_call GD (hr.mono (by omega)) rfl gD FD.kp bD .nil pass0 (pa_cons (pv 0) (pa_cons pe_int pa_nil))) pa_nil))
          (blkOk_by (N := ["_law_state_here", "_law_deep", "_law_fields", "_law_kind", "_law_field", "_law_parts", "_law_k"]) (sc := defScope (topS 20)) (by decide +kernel)) (fun _ _ _ _ _ => pg_name (i := 6) scLPol.nd rfl (Or.inl rfl)) (fun _ _ _ _ _ => pts_nil)
          (fun _ _ _ _ _ => pe_call GS hr rfl g F.kp b .nil pass0 (pa_cons (pv 0) (pa_cons (pe_op op_sub (pv 1) pe_int) (pa_cons (pv 2) pa_nil)))))
      (pss_one (ps_ret (pe_tup (pa_cons (pe_ix ix_list (pe_lst (pa_cons pe_str (pa_cons pe_str pa_nil))) (pe_op op_mod (pe_callTy call_int1 rfl mInt (by decide +kernel) (pa_cons (pv 3) pa_nil)) pe_int) (fun _ _ => rfl)) (pa_cons (pv 5) pa_nil)))))))), ?_⟩
    have hd : d + 1 ≤ n + 1 := hd
    have L : Lawful (Vw.law H M a c hM wd) a c := Lawful.law
    have ok : (Vw.law H M a c hM wd).ok H := ⟨Same.refl _, ls⟩
    have hw : (Vw.law H M a c hM wd).D K H vf (.list drawnD) := hw
    have fin : ∀ {v H1 e}, (Vw.law H M a c hM wd).ok H1 → (Vw.law H M a c hM wd).D K H1 v e → DrawnP d e → Q v H1 := fun k dv hde => q _ _ _ hde k.1 k.2 dv
    refine sq_asg (W := Vw.law H M a c hM wd) (K := K) (ev_draw (n := 10) L rfl ev_int (by decide)) ok fun vk dk H1 fk r1 dv1 => ?_
    obtain ⟨k, hk, rfl⟩ := fk
    obtain rfl := d_int dv1
    refine sq_if (W := Vw.law H M a c hM wd) (et_or (et_eqI (K := K) (j := 0) (ev_var rfl (.int (d : Int))) ev_int) fun _ => et_ltI (K := K) (j := 3) (ev_var rfl (.int (k : Int))) ev_int) r1.2 (fun _ H2 r2 => ?_) (fun hb H2 r2 => ?_)
    · refine sq_if (W := Vw.law H M a c hM wd) (B := fun _ => True) (et_test (ev_eqI (G := fun e => ∃ b, e = .bool b) (ev_draw (n := 2) L rfl ev_int (by decide)) (F2 := fun e => e = .int 0) ev_int fun e1 e2 ⟨r, _, a1⟩ a2 => ⟨_, _, a1, a2, _, rfl⟩) fun e ⟨b, e'⟩ => ⟨b, e', trivial⟩) r2.2 (fun _ H3 r3 => ?_) (fun _ H3 r3 => ?_)
      · refine st_ret (W := Vw.law H M a c hM wd) (K := K) (ev_tag2 (F := DrawnT 1) (ev_callL L rfl 1 (ea_c ev_int ea_nil) (by decide))) r3.2 fun v e H4 he r4 dv => ?_
        obtain ⟨e, rfl, t, rfl, ot, lt⟩ := he
        exact fin r4.2 dv ⟨.test t, by rw [encP], .test (ot.mono (by decide)), by rw [nums]; exact Nat.le_trans lt (Nat.pow_le_pow_right (by decide) (by omega))⟩
      · refine sq_asg (W := Vw.law H M a c hM wd) (K := K) (F := fun e => ∃ r, r < 5 ∧ e = .str (fname (drawnF r))) (ev_ixAny (ds := drawnD) (F2 := fun e => ∃ r : Nat, r < 5 ∧ e = .int r) (ev_var rfl (dmono (rtrans r1 (rtrans r2 r3)) hw)) (ev_draw (n := 5) L rfl (ev_len (F := fun e => e = .list drawnD) (ev_var rfl (dmono (rtrans r1 (rtrans r2 r3)) hw)) fun e h => ⟨drawnD, .inl h, rfl⟩) (by decide)) ?_) r3.2 fun vf df H4 ff r4 dvf => ?_
        · rintro e ⟨r, hr, rfl⟩
          exact ⟨(r : Int), _, rfl, atI_nat (drawn_at hr), r, hr, rfl⟩
        · obtain ⟨r, hr5, rfl⟩ := ff
          obtain rfl := d_str dvf
          have hf5 := drawnF_lt r
          generalize drawnF r = fl at hf5 dvf
          refine st_ret (W := Vw.law H M a c hM wd) (K := K) (ev_tag3 (F := fun e => e = .str (fname fl)) (G := fun e => ∃ m : Int, 0 ≤ m ∧ m ≤ 15 ∧ e = .int m) (ev_var rfl (.str _)) (ev_if (et_testD (ev_neS (K := K) (x := fname fl) (y := "switch") (ev_var rfl (.str _)) ev_str)) (fun _ => ev_ixAny (ds := [.int 1, .int 2, .int 0, .int 6]) (F2 := fun e => ∃ r : Nat, r < 4 ∧ e = .int r) (ev_lstD (ea_c ev_int (ea_c ev_int (ea_c ev_int (ea_c ev_int ea_nil)))) (by simp)) (ev_draw (n := 4) L rfl ev_int (by decide)) ?_)
            (fun _ => ev_addI (F1 := fun e => e = .int 1) ev_int (ev_draw (n := 3) L rfl ev_int (by decide)) ?_))) r4.2 fun v e H5 he r5 dv => ?_
          · rintro e ⟨r, hr, rfl⟩
            match r, hr with
            | 0, _ => exact ⟨0, _, rfl, rfl, 1, by decide, by decide, rfl⟩
            | 1, _ => exact ⟨1, _, rfl, rfl, 2, by decide, by decide, rfl⟩
            | 2, _ => exact ⟨2, _, rfl, rfl, 0, by decide, by decide, rfl⟩
            | 3, _ => exact ⟨3, _, rfl, rfl, 6, by decide, by decide, rfl⟩
          · rintro e1 e2 rfl ⟨r, hr, rfl⟩
            exact ⟨_, _, rfl, rfl, 1 + (r : Int), by omega, by omega, rfl⟩
          · obtain ⟨e1, e2, rfl, rfl, m, m0, m1, rfl⟩ := he
            exact fin r5.2 dv ⟨.set fl m, by rw [encP], .set ⟨hf5, m0, m1⟩, by rw [nums, List.length_singleton]; exact Nat.one_le_pow _ _ (by decide)⟩
    · have hd0 : d ≠ 0 := by
        rcases hb with ⟨h, _⟩ | ⟨h1, h2⟩
        · cases h
        · intro z
          rw [z] at h1; simp at h1
      obtain ⟨d', rfl⟩ : ∃ d', d = d' + 1 := ⟨d - 1, by omega⟩
      have sub : ∀ {W : Vw} {σ : L2.St} {H' : Hp}, σ[1]? = some (some (.int ((d' + 1 : Nat) : Int))) → EvD W K (tOp (rI0 fun i j => .int (i - j)) (tVar 1) (tC (.int 1))) σ H' (.int (d' : Nat)) := fun h => ev_subI (F1 := fun e => e = .int ((d' + 1 : Nat) : Int)) (F2 := fun e => e = .int 1) (ev_var h (.int _)) ev_int fun e1 e2 a1 a2 => ⟨_, _, a1, a2, by congr 1; omega⟩
      have r12 := rtrans r1 r2
      refine sq_if (W := Vw.law H M a c hM wd) (et_eqI (K := K) (j := 9) (ev_var rfl (.int (k : Int))) ev_int) r2.2 (fun _ H3 r3 => ?_) (fun _ H3 r3 => ?_)
      · refine st_ret (W := Vw.law H M a c hM wd) (K := K) (ev_tag2 (F := DrawnP d') (ev_callL L rfl d' (ea_c (sub rfl) (ea_c (ev_var rfl (dmono (rtrans r12 r3) hw)) ea_nil)) (by show d' + 1 ≤ n; omega))) r3.2 fun v e H4 he r4 dv => ?_
        obtain ⟨e, rfl, t, rfl, ot, lt⟩ := he
        exact fin r4.2 dv ⟨.star t, by rw [encP], .star ot, by rw [nums]; exact Nat.le_trans lt (Nat.pow_le_pow_right (by decide) (by omega))⟩
      · refine sq_asg (W := Vw.law H M a c hM wd) (K := K) (F := fun e => ∃ ts : List Pol, e = .list (ts.map encP) ∧ ts.length ≤ 3 ∧ ∀ t ∈ ts, OkP d' t ∧ (nums t).length ≤ 3 ^ (d' + 1)) (ev_imp (ev_lcR (FL := fun ds => ∃ r : Nat, r < 4 ∧ ds = [.int r]) (ea_imp (ea_one (ev_draw (n := 4) L rfl ev_int (by decide))) fun ds ⟨e, e1, r, hr, e2⟩ => ⟨r, hr, by rw [e1, e2]⟩) (fun ds ⟨r, hr, e⟩ => ⟨r, e, by omega⟩) (fun _ => rfl)
          (fun i out => i ≤ 1000 ∧ ∃ ts : List Pol, out = ts.map encP ∧ ts.length = i ∧ ∀ t ∈ ts, OkP d' t ∧ (nums t).length ≤ 3 ^ (d' + 1)) ⟨by decide, [], rfl, rfl, fun _ h => by cases h⟩ (fun i out ⟨hi, ts, e, hl, _⟩ => by rw [e, List.length_map]; exact small1000 (by omega)) (fun i out pi hi Dl acc H' x ic dx => ?_)) ?_) r3.2 fun v e H4 he r4 dv => ?_
        · obtain ⟨_, ts, rfl, hl, ht⟩ := pi
          obtain ⟨H1', ok1', n1'⟩ := ic.nw
          refine ⟨fun b => b = true, et_yes, fun _ => ⟨DrawnP d', ev_callL (L.plus ok1' n1') rfl d' (ea_c (sub rfl) (ea_c (ev_var rfl (dp_same ic.sm (dmono (rtrans r12 r3) hw))) ea_nil)) (by show d' + 1 ≤ n; omega), fun e ⟨t, e1, o1, l1⟩ => ⟨by omega, ts ++ [t], by rw [List.map_append, e1]; rfl, by rw [List.length_append, hl]; rfl, fun t' h' => ?_⟩⟩, fun e => by cases e⟩
          rcases List.mem_append.mp h' with h' | h'
          · exact ht t' h'
          · rw [show t' = t by simpa using h']; exact ⟨o1, l1⟩
        · rintro e ⟨out, m, rfl, ⟨r, hr, er⟩, _, ts, rfl, hl, ht⟩
          have : m = r := by
            have := List.cons.inj er
            have := PyData.int.inj this.1
            omega
          exact ⟨ts, rfl, by omega, ht⟩
        · obtain ⟨ts, rfl, hl, ht⟩ := he
          have lens : (numsL ts).length ≤ 3 ^ (d' + 1 + 1) := by
            rw [numsL_eq, Nat.pow_succ]
            have := flat_le fun t h => (ht t h).2
            have h3 : ts.length * 3 ^ (d' + 1) ≤ 3 * 3 ^ (d' + 1) := Nat.mul_le_mul_right _ hl
            omega
          refine st_ret (W := Vw.law H M a c hM wd) (K := K) (F := fun e => e = tagD "sum" [.list (ts.map encP)] ∨ e = tagD "seq" [.list (ts.map encP)]) (ev_imp (ev_tup (ea_cons (F := fun e => e = .str "sum" ∨ e = .str "seq") (ev_ixAny (ds := [.str "sum", .str "seq"]) (F2 := fun e => e = .int ((k : Int) % 2)) (ev_lstD (ea_c ev_str (ea_c ev_str ea_nil)) (by simp)) (ev_modI (F1 := fun e => e = .int (k : Int)) (F2 := fun e => e = .int 2) (ev_intc (F := fun e => e = .int (k : Int)) (ev_var rfl (.int _)) fun e h => ⟨_, h, rfl⟩) ev_int fun e1 e2 a1 a2 => ⟨_, _, a1, a2, by decide, rfl⟩) ?_) (ea_c (ev_var rfl dv) ea_nil)) ?_) ?_) r4.2 fun v e H5 he r5 dv => ?_
          · rintro e rfl
            have : (k : Int) % 2 = 0 ∨ (k : Int) % 2 = 1 := by omega
            rcases this with h | h
            · rw [h]; exact ⟨0, _, rfl, rfl, .inl rfl⟩
            · rw [h]; exact ⟨1, _, rfl, rfl, .inr rfl⟩
          · rintro ds ⟨d1, r, rfl, _, rfl⟩
            simp
          · rintro e ⟨ds, rfl, d1, r, rfl, h | h, rfl⟩
            · rw [h]; exact .inl rfl
            · rw [h]; exact .inr rfl
          · rcases he with rfl | rfl
            · exact fin r5.2 dv ⟨.sum ts, by rw [encP, encPs_eq], .sum hl fun t h => (ht t h).1, by rw [nums]; exact lens⟩
            · exact fin r5.2 dv ⟨.seq ts, by rw [encP, encPs_eq], .seq hl fun t h => (ht t h).1, by rw [nums]; exact lens⟩
end
end HB
/-! ## HBLHold -/
/-! _law_holds, _law_numbers -/
namespace HB
open PySem PySem.Spec PyProof.Rows L2

theorem scLHolds : FnScope ["_law_test_here", "_law_state_here", "_law_held", "_law_part"] ["_law_test_here", "_law_state_here"] (defScope (topS 21)) := ⟨rfl, rfl, rfl, by decide +kernel, rfl, by decide +kernel, by decide +kernel⟩
theorem scLNums : FnScope ["_law_part", "_law_found", "_law_one"] ["_law_part"] (defScope (topS 23)) := ⟨rfl, rfl, rfl, by decide +kernel, rfl, by decide +kernel, by decide +kernel⟩
theorem inV_bls (x : Bool) : ∀ bs : List Bool, inV (.bl x) (bs.map V.bl) = bs.any fun y => y == x
  | [] => rfl
  | y :: ys => by
    have ih := inV_bls x ys
    unfold inV at ih ⊢
    rw [List.map_cons, List.any_cons, List.any_cons, ih]
    rfl
theorem all_not (bs : List Bool) : (!bs.any fun y => y == false) = bs.all id := by
  induction bs with
  | nil => rfl
  | cons b bs ih => rw [List.any_cons, List.all_cons, Bool.not_or, ih]; cases b <;> rfl
theorem any_tt (bs : List Bool) : (bs.any fun y => y == true) = bs.any id := by
  induction bs with
  | nil => rfl
  | cons b bs ih => rw [List.any_cons, List.any_cons, ih]; cases b <;> rfl
section
variable {W : Vw} {K : PySem.W.Frag} {σ : L2.St} {H : Hp} {ta tb : TE}
/-- [..].index(field) -/
theorem ev_fieldIx {f : Nat} (hf : f < 5) (ha : EvD W K ta σ H (.list (fieldsD.map .str))) (hb : EvD W K tb σ H (.str (fname f))) : EvD W K (tBM K "list" (rIndex K) ta (tCons tb tNil)) σ H (.int (f : Nat)) := fun H0 a0 Q q => ha H0 a0 _ fun v H1 d e a1 dv => by
  subst e
  obtain ⟨p, xs, rfl, hs, hd⟩ := d_lst dv
  obtain ⟨rfl, hfl⟩ := flats_val hd (flatD_strs _)
  rw [dV_strs] at hs hfl
  refine ⟨.inl ⟨rfl, _, off_sub.seq hs⟩, hb H1 (rtrans a0 a1) _ fun u H2 d2 e2 a2 du => ?_⟩
  subst e2
  obtain rfl := d_str du
  refine ⟨p, _, _, f, .str (fname f), rfl, rfl, off_sub.seq (a2.1.seq hs), rfl, hfl, by rw [List.getElem?_map, fname_at hf]; rfl, by show (fname f == fname f) = true; exact beq_self_eq_true _, fun m z hm hz => ?_, q _ H2 _ rfl (rtrans a1 a2) (.int _)⟩
  rw [List.getElem?_map, fname_at (by omega)] at hz
  cases hz
  show (fname m == fname f) = false
  exact beq_eq_false_iff_ne.mpr fun e => by have := fname_inj (by omega) hf e; omega
theorem ev_notFalse {bs : List Bool} (h : EvD W K ta σ H (.list (bs.map .bool))) : EvD W K (tOp (rIn K true) (tC (.bl false)) ta) σ H (.bool (bs.all id)) := by
  refine ev_is (ev_in (neg := true) (d := .bool false) (ds := bs.map .bool) ev_bl (ev_imp h fun _ e => .inl e) rfl ?_) ?_
  · rw [List.all_map]; exact List.all_eq_true.mpr fun _ _ => rfl
  · have e : (bs.map PyData.bool).map dV = bs.map V.bl := by rw [List.map_map]; rfl
    rw [if_pos rfl, e]
    show PyData.bool (!inV (.bl false) _) = _
    rw [inV_bls, all_not]
theorem ev_isTrue {bs : List Bool} (h : EvD W K ta σ H (.list (bs.map .bool))) : EvD W K (tOp (rIn K false) (tC (.bl true)) ta) σ H (.bool (bs.any id)) := by
  refine ev_is (ev_in (neg := false) (d := .bool true) (ds := bs.map .bool) ev_bl (ev_imp h fun _ e => .inl e) rfl ?_) ?_
  · rw [List.all_map]; exact List.all_eq_true.mpr fun _ _ => rfl
  · have e : (bs.map PyData.bool).map dV = bs.map V.bl := by rw [List.map_map]; rfl
    rw [if_neg Bool.false_ne_true, e]
    show PyData.bool (inV (.bl true) _) = _
    rw [inV_bls, any_tt]
theorem ev_fieldsL : EvD W K (tLst (tCons (tC (.str "switch")) (tCons (tC (.str "port")) (tCons (tC (.str "src")) (tCons (tC (.str "dst")) (tCons (tC (.str "kind")) tNil)))))) σ H (.list (fieldsD.map .str)) :=
  ev_lstD (ds := [.str "switch", .str "port", .str "src", .str "dst", .str "kind"]) (ea_c ev_str (ea_c ev_str (ea_c ev_str (ea_c ev_str (ea_c ev_str ea_nil))))) (by show 5 ≤ 1000; decide)
end
section
variable {P : Program} {w : World} {K : PySem.W.Frag} {mg : Str → Option Value} {base : Heap}
theorem ok_lholds {f : Addr} {fd : FuncData} (F : Fun K "_law_holds" "_law_holds" (topS 21) f fd) (g : mg "_law_holds" = some (.ref f)) (b : Binds K fd ["_law_test_here", "_law_state_here"] []) : ∀ n, FnOk P w K mg base CX0 (n + 2) f fd ["_law_test_here", "_law_state_here"] (spHolds K n)
  | 0 => fn_dead fun vs H Q E ⟨M, x, _, _, ⟨⟨m, hm, _⟩, _⟩, _⟩ => by omega
  | n + 1 => by
    have GS := ok_lholds F g b n
    refine F.ok scLHolds (spA_len fun _ => rfl) (fun cdv A outer s H vs Q E hr h => ?_)
    obtain ⟨M, ⟨t, s5⟩, wd, ha, ⟨hp, hs5⟩, q⟩ := h
    cases ha with
    | cons hv ha =>
    cases ha with
    | cons hw ha =>
    cases ha
    rename_i vt vs
    refine ⟨_, pss_cons (ps_if (pt_cmpR op_eq (pe_ix ix_tup (pv 0) pe_int (fun _ _ => rfl)) pe_str (nomark _))
        (pss_one (ps_ret (pe_cmpR op_eq (pe_ix ix_tup (pv 1) (pe_bm PySem.F.plainAttrs_list PySem.F.slot_list_index PySem.F.type_list_index mt_index (pe_lst (pa_cons pe_str (pa_cons pe_str (pa_cons pe_str (pa_cons pe_str (pa_cons pe_str pa_nil)))))) (pa_cons (pe_ix ix_tup (pv 0) pe_int (fun _ _ => rfl)) pa_nil)) (fun _ _ => rfl)) (pe_ix ix_tup (pv 0) pe_int (fun _ _ => rfl)) (nomark _)))) pss_nil)
      (pss_cons (ps_if (pt_cmpR op_eq (pe_ix ix_tup (pv 0) pe_int (fun _ _ => rfl)) pe_str (nomark _))
        (pss_one (ps_ret (pe_not (pe_call GS hr rfl g F.kp b .nil pass0 (pa_cons (pe_ix ix_tup (pv 0) pe_int (fun _ _ => rfl)) (pa_cons (pv 1) pa_nil)))))) pss_nil)
      (pss_cons (ps_setLc (i := 2) (own := [("_law_part", 3)]) (g := gName 3) (tt := tYes) rfl scLHolds.nd rfl rfl (sw_true rfl rfl rfl (by decide +kernel)) (pi_list (pe_ix ix_tup (pv 0) pe_int (fun _ _ => rfl)))
          (blkOk_by (N := ["_law_test_here", "_law_state_here", "_law_held", "_law_part"]) (sc := defScope (topS 21)) (by decide +kernel)) (fun _ _ _ _ _ => pg_name (i := 3) scLHolds.nd rfl (Or.inl rfl)) (fun _ _ _ _ _ => pts_nil)
          (fun _ _ _ _ _ => pe_call GS hr rfl g F.kp b .nil pass0 (pa_cons (pv 3) (pa_cons (pv 1) pa_nil))))
      (pss_one (ps_ret (pe_ifExp (pt_cmpR op_eq (pe_ix ix_tup (pv 0) pe_int (fun _ _ => rfl)) pe_str (nomark _)) (pe_cmpR op_notIn_seq pe_bl (pv 2) (by rfl)) (pe_cmpR op_in_seq pe_bl (pv 2) (by rfl))))))), ?_⟩
    have ok : (Vw.base H M wd).ok H := Same.refl H
    have hs5 : s5.length = 5 := hs5
    have hs : (Vw.base H M wd).D K H vs (encS s5) := hw
    have ht : (Vw.base H M wd).D K H vt (tagD (tagT t) (argT t)) := by rw [← encT_tag]; exact hv
    have kinds : (∃ f5 k5, t = .is f5 k5) ∨ (∃ t', t = .no t') ∨ ∃ (ts : List Tst) (bb : Bool), argT t = [.list (encTs ts)] ∧ decide (tagT t = "is") = false ∧ decide (tagT t = "not") = false ∧ decide (tagT t = "all") = bb ∧ ts.length ≤ 3 ∧ (∀ t ∈ ts, OkT' n t) ∧
        holds t s5 = (if bb = true then (ts.map fun t => holds t s5).all id else (ts.map fun t => holds t s5).any id) := by
      cases t with
      | is f5 k5 => exact .inl ⟨f5, k5, rfl⟩
      | no t' => exact .inr (.inl ⟨t', rfl⟩)
      | all ts =>
        obtain ⟨hl, hok⟩ := okT'_all hp
        exact .inr (.inr ⟨ts, true, rfl, dq "all" rfl (by decide +kernel), dq "all" rfl (by decide +kernel), dq "all" rfl (by decide +kernel), hl, hok, by rw [holds, holdsAll_eq, if_pos rfl]⟩)
      | any ts =>
        obtain ⟨hl, hok⟩ := okT'_any hp
        exact .inr (.inr ⟨ts, false, rfl, dq "any" rfl (by decide +kernel), dq "any" rfl (by decide +kernel), dq "any" rfl (by decide +kernel), hl, hok, by rw [holds, holdsAny_eq, if_neg Bool.false_ne_true]⟩)
    rcases kinds with ⟨f5, k5, rfl⟩ | ⟨t', rfl⟩ | ⟨ts, bb, ea, e1, e2, e3, hl, hok, hh⟩
    · have hn := okT'_is hp
      refine sq_yes (et_tag rfl ht (dq "is" rfl (by decide +kernel))) ok fun H1 r1 => ?_
      have hx : s5[f5]? = some (s5.getD f5 0) := by
        rw [List.getD_eq_getElem?_getD, List.getElem?_eq_getElem (by have := hn.1; omega)]; rfl
      refine st_ret (W := Vw.base H M wd) (K := K) (F := fun d => d = .bool (holds (.is f5 k5) s5)) ?_ r1.2 fun v d H4 e r4 dv => q v H4 d e r4.2 dv
      refine ev_eqI (F1 := fun d => d = .int (s5.getD f5 0)) (F2 := fun d => d = .int k5) ?_ (ev_arg2 rfl (dmono r1 ht)) fun e1 e2 a1 a2 => ⟨_, _, a1, a2, by rw [holds]⟩
      refine ev_ixT (ds := s5.map .int) (i := (f5 : Int)) (ev_var rfl (dmono r1 hs)) (ev_fieldIx hn.1 ev_fieldsL (ev_arg1 rfl (dmono r1 ht))) ?_
      exact atI_nat (by rw [List.getElem?_map, hx]; rfl)
    · refine sq_no (et_tag rfl ht (dq "not" rfl (by decide +kernel))) ok fun H1 r1 => ?_
      refine sq_yes (et_tag rfl (dmono r1 ht) (dq "not" rfl (by decide +kernel))) r1.2 fun H2 r2 => ?_
      have r2' := rtrans r1 r2
      refine st_ret (W := Vw.base H M wd) (K := K) (F := fun d => d = .bool (holds (.no t') s5)) ?_ r2.2 fun v d H4 e r4 dv => q v H4 d e r4.2 dv
      rw [holds]
      exact ev_not (ev_call (x := (t', s5)) (ea_c (ev_arg1 rfl (dmono r2' ht)) (ea_c (ev_var rfl (dmono r2' hs)) ea_nil)) ⟨okT'_no hp, hs5⟩)
    · refine sq_no (et_tag rfl ht e1) ok fun H1 r1 => ?_
      refine sq_no (et_tag rfl (dmono r1 ht) e2) r1.2 fun H2 r2 => ?_
      have r2' := rtrans r1 r2
      rw [ea] at ht
      refine sq_asg (F := fun r => ∃ out, r = .list out ∧ out = (ts.map fun t => PyData.bool (holds t s5)).take (encTs ts).length) (W := Vw.base H M wd) (K := K)
        (ev_lc (ds := encTs ts) (ev_arg1 rfl (dmono r2' ht)) (fun _ => rfl) (fun i out => out = (ts.map fun t => PyData.bool (holds t s5)).take i) rfl (fun i out e => ?_) (fun i out d pi hd Dl acc H' z ic dz => ?_)) r2'.2 ?_
      · rw [e, List.length_take, List.length_map]; exact Nat.lt_of_le_of_lt (Nat.min_le_right _ _) (small1000 (by omega))
      · rw [encTs_eq, List.getElem?_map] at hd
        cases hti : ts[i]? with
        | none => rw [hti] at hd; cases hd
        | some ti =>
        rw [hti] at hd
        cases hd
        refine ⟨fun b => b = true, et_yes, fun _ => ⟨fun e => e = .bool (holds ti s5), ?_, fun e he => ?_⟩, fun e => by cases e⟩
        · refine ev_call (x := (ti, s5)) (ea_c (ev_var rfl dz) (ea_c (ev_var rfl (dp_same ic.sm (dmono r2' hs))) ea_nil)) ⟨hok ti (List.mem_of_getElem? hti), hs5⟩
        · rw [pi, he, List.take_add_one, List.getElem?_map, hti]; rfl
      · rintro v d H3 ⟨out, rfl, rfl⟩ r3 dv
        have eo : (ts.map fun t => PyData.bool (holds t s5)).take (encTs ts).length = (ts.map fun t => holds t s5).map PyData.bool := by
          rw [List.take_of_length_le (by rw [encTs_eq, List.length_map, List.length_map]; exact Nat.le_refl _), List.map_map]; rfl
        rw [eo] at dv
        refine st_ret (W := Vw.base H M wd) (K := K) (F := fun d => d = .bool (holds t s5)) (ev_if (et_tag rfl (dmono (rtrans r2' r3) ht) e3) (fun e => ?_) (fun e => ?_)) r3.2 fun v d H4 e r4 dv => q v H4 d e r4.2 dv
        · refine ev_is (ev_notFalse (ev_var rfl dv)) ?_
          rw [hh, if_pos e.symm]
        · refine ev_is (ev_isTrue (ev_var rfl dv)) ?_
          rw [hh, if_neg (by rw [← e]; exact Bool.false_ne_true)]
end
end HB
/-! ## HBLNum -/
/-! _law_numbers -/
namespace HB
open PySem PySem.Spec PyProof.Rows L2

/-- tests and policies as one -/
abbrev TP := Tst ⊕ Pol
def encX : TP → PyData
  | .inl t => encT t
  | .inr p => encP p
def numsX : TP → List (Nat × Int)
  | .inl t => numsT t
  | .inr p => nums p
def tagX : TP → Str
  | .inl t => tagT t
  | .inr p => tagP p
def argX : TP → List PyData
  | .inl t => argT t
  | .inr p => argP p
def OkX (n : Nat) : TP → Prop
  | .inl t => OkT' n t
  | .inr p => ∃ k, k + 3 ≤ n ∧ OkP' k p
theorem encX_tag (x : TP) : encX x = tagD (tagX x) (argX x) := by
  cases x with
  | inl t => exact encT_tag t
  | inr p => exact encP_tag p
theorem okT'_mono {n m : Nat} {t : Tst} (h : OkT' n t) (l : n ≤ m) : OkT' m t := by
  obtain ⟨k, hk, o⟩ := h
  exact ⟨k, by omega, o⟩
theorem map_inl (ts : List Tst) : ts.map encT = (ts.map (Sum.inl : Tst → TP)).map encX := by rw [List.map_map]; rfl
theorem map_inr (ts : List Pol) : ts.map encP = (ts.map (Sum.inr : Pol → TP)).map encX := by rw [List.map_map]; rfl
theorem flat_inl (ts : List Tst) : ts.flatMap numsT = (ts.map (Sum.inl : Tst → TP)).flatMap numsX := by rw [List.flatMap_map]; rfl
theorem flat_inr (ts : List Pol) : ts.flatMap nums = (ts.map (Sum.inr : Pol → TP)).flatMap numsX := by rw [List.flatMap_map]; rfl
/-- `tag in (..)` -/
def inTags (x : Str) (ts : List Str) : Bool := ts.any fun y => y == x
theorem kindsX {n : Nat} {x : TP} (o : OkX (n + 1) x) :
    (∃ f m, f < 5 ∧ argX x = [.str (fname f), .int m] ∧ numsX x = [(f, m)] ∧ inTags (tagX x) ["is", "set"] = true) ∨
    (∃ y, argX x = [encX y] ∧ numsX x = numsX y ∧ OkX n y ∧ inTags (tagX x) ["is", "set"] = false ∧ inTags (tagX x) ["test", "not", "star"] = true) ∨
    ∃ ys : List TP, argX x = [.list (ys.map encX)] ∧ numsX x = ys.flatMap numsX ∧ (∀ y ∈ ys, OkX n y) ∧ inTags (tagX x) ["is", "set"] = false ∧ inTags (tagX x) ["test", "not", "star"] = false := by
  have tg : ∀ (z : Str) (ts : List Str) (b : Bool), tagX x = z → inTags z ts = b → inTags (tagX x) ts = b := fun z ts b e h => by rw [e]; exact h
  cases x with
  | inl t =>
    have o : OkT' (n + 1) t := o
    cases t with
    | is f m => exact .inl ⟨f, m, (okT'_is o).1, rfl, by rw [numsX, numsT], tg "is" _ _ rfl (by decide +kernel)⟩
    | no t => exact .inr (.inl ⟨.inl t, rfl, by show numsT (.no t) = numsT t; rw [numsT], okT'_no o, tg "not" _ _ rfl (by decide +kernel), tg "not" _ _ rfl (by decide +kernel)⟩)
    | all ts => exact .inr (.inr ⟨ts.map .inl, by rw [← map_inl, ← encTs_eq]; rfl, by rw [← flat_inl, ← numsTs_eq, numsX, numsT], fun y hy => by
        obtain ⟨t, ht, rfl⟩ := List.mem_map.mp hy
        exact (okT'_all o).2 t ht, tg "all" _ _ rfl (by decide +kernel), tg "all" _ _ rfl (by decide +kernel)⟩)
    | any ts => exact .inr (.inr ⟨ts.map .inl, by rw [← map_inl, ← encTs_eq]; rfl, by rw [← flat_inl, ← numsTs_eq, numsX, numsT], fun y hy => by
        obtain ⟨t, ht, rfl⟩ := List.mem_map.mp hy
        exact (okT'_any o).2 t ht, tg "any" _ _ rfl (by decide +kernel), tg "any" _ _ rfl (by decide +kernel)⟩)
  | inr p =>
    obtain ⟨k, hk, o⟩ := (show ∃ k, k + 3 ≤ n + 1 ∧ OkP' k p from o)
    obtain ⟨k, rfl⟩ : ∃ k', k = k' + 1 := ⟨k - 1, by obtain ⟨m, hm, _⟩ := o; omega⟩
    cases p with
    | test t => exact .inr (.inl ⟨.inl t, rfl, by show nums (.test t) = numsT t; rw [nums], okT'_mono (okP'_test o) (by omega), tg "test" _ _ rfl (by decide +kernel), tg "test" _ _ rfl (by decide +kernel)⟩)
    | set f m => exact .inl ⟨f, m, (okP'_set o).1, rfl, by rw [numsX, nums], tg "set" _ _ rfl (by decide +kernel)⟩
    | sum ts => exact .inr (.inr ⟨ts.map .inr, by rw [← map_inr, ← encPs_eq]; rfl, by rw [← flat_inr, ← numsL_eq, numsX, nums], fun y hy => by
        obtain ⟨t, ht, rfl⟩ := List.mem_map.mp hy
        exact ⟨k, by omega, (okP'_sum o).2 t ht⟩, tg "sum" _ _ rfl (by decide +kernel), tg "sum" _ _ rfl (by decide +kernel)⟩)
    | seq ts => exact .inr (.inr ⟨ts.map .inr, by rw [← map_inr, ← encPs_eq]; rfl, by rw [← flat_inr, ← numsL_eq, numsX, nums], fun y hy => by
        obtain ⟨t, ht, rfl⟩ := List.mem_map.mp hy
        exact ⟨k, by omega, (okP'_seq o).2 t ht⟩, tg "seq" _ _ rfl (by decide +kernel), tg "seq" _ _ rfl (by decide +kernel)⟩)
    | star p => exact .inr (.inl ⟨.inr p, rfl, by show nums (.star p) = nums p; rw [nums], ⟨k, by omega, okP'_star o⟩, tg "star" _ _ rfl (by decide +kernel), tg "star" _ _ rfl (by decide +kernel)⟩)
section
variable {W : Vw} {K : PySem.W.Frag} {σ : L2.St} {H : Hp} {ta tb : TE}
theorem et_inTags {x : Str} {ts : List Str} {b : Bool} (ha : EvD W K ta σ H (.str x)) (hb : EvD W K tb σ H (.tuple (ts.map .str))) (e : inTags x ts = b) : EvB W (tTest (tOp (rIn K false) ta tb)) σ H b := by
  refine et_testD (ev_is (ev_in (neg := false) (d := .str x) (ds := ts.map .str) ha (ev_imp hb fun _ e => .inr e) rfl (flatD_strs _)) ?_)
  rw [if_neg Bool.false_ne_true, dV_strs]
  show PyData.bool (inV (.str x) _) = _
  rw [inV_strs]
  exact congrArg PyData.bool e
end
abbrev spLNum (K : PySem.W.Frag) (n : Nat) : Sp := spA K (fun x : TP => [encX x]) (fun x => OkX n x ∧ (numsX x).length ≤ 100000) (fun x d => d = .list ((numsX x).map encN))
section
variable {P : Program} {w : World} {K : PySem.W.Frag} {mg : Str → Option Value} {base : Heap}
theorem ok_lnums {f : Addr} {fd : FuncData} (F : Fun K "_law_numbers" "_law_numbers" (topS 23) f fd) (g : mg "_law_numbers" = some (.ref f)) (b : Binds K fd ["_law_part"] []) : ∀ n, FnOk P w K mg base CX0 (n + 1) f fd ["_law_part"] (spLNum K n)
  | 0 => fn_dead fun vs H Q E ⟨M, x, _, _, ⟨o, _⟩, _⟩ => by
    cases x with
    | inl t => obtain ⟨m, hm, _⟩ := (show OkT' 0 t from o); omega
    | inr p => obtain ⟨m, hm, _⟩ := (show ∃ k, k + 3 ≤ 0 ∧ OkP' k p from o); omega
  | n + 1 => by
    have GS := ok_lnums F g b n
    refine F.ok scLNums (spA_len fun _ => rfl) (fun cdv A outer s H vs Q E hr h => ?_)
    obtain ⟨M, x, wd, ha, ⟨hp, hz⟩, q⟩ := h
    cases ha with
    | cons hv ha =>
    cases ha
    rename_i vx
    refine ⟨_, pss_cons (ps_if (pt_cmpR op_in_seq (pe_ix ix_tup (pv 0) pe_int (fun _ _ => rfl)) (pe_tup (pa_cons pe_str (pa_cons pe_str pa_nil))) (by rfl))
        (pss_one (ps_ret (pe_lst (pa_cons (pe_tup (pa_cons (pe_ix ix_tup (pv 0) pe_int (fun _ _ => rfl)) (pa_cons (pe_ix ix_tup (pv 0) pe_int (fun _ _ => rfl)) pa_nil))) pa_nil)))) pss_nil)
      (pss_cons (ps_if (pt_cmpR op_in_seq (pe_ix ix_tup (pv 0) pe_int (fun _ _ => rfl)) (pe_tup (pa_cons pe_str (pa_cons pe_str (pa_cons pe_str pa_nil)))) (by rfl))
        (pss_one (ps_ret (pe_call GS hr rfl g F.kp b .nil pass0 (pa_cons (pe_ix ix_tup (pv 0) pe_int (fun _ _ => rfl)) pa_nil)))) pss_nil)
      (pss_cons (ps_set (i := 1) scLNums.nd rfl (.inl rfl) (pe_lst pa_nil))
      (pss_cons (ps_for PassesOwn.never rfl (pi_list (pe_ix ix_tup (pv 0) pe_int (fun _ _ => rfl))) (pg_name (i := 2) scLNums.nd rfl (.inl rfl))
        (pss_one (ps_set (i := 1) scLNums.nd rfl (.inl rfl) (pe_op op_catS (pv 1) (pe_call GS hr rfl g F.kp b .nil pass0 (pa_cons (pv 2) pa_nil))))))
      (pss_one (ps_ret (pv 1)))))), ?_⟩
    have ok : (Vw.base H M wd).ok H := Same.refl H
    have ht : (Vw.base H M wd).D K H vx (tagD (tagX x) (argX x)) := by rw [← encX_tag]; exact hv
    have hz : (numsX x).length ≤ 100000 := hz
    have tg : ∀ {H1 : Hp}, (Vw.base H M wd).R H H1 → EvD (Vw.base H M wd) K (tOp (rIxT K) (tVar 0) (tC (.int 0))) [some vx, none, none] H1 (.str (tagX x)) := fun r => ev_ixT (ev_var rfl (dmono r ht)) ev_int (atI_nat (j := 0) rfl)
    have t2 : ∀ {H1 : Hp}, EvD (Vw.base H M wd) K (tTup (tCons (tC (.str "is")) (tCons (tC (.str "set")) tNil))) [some vx, none, none] H1 (.tuple ((["is", "set"] : List Str).map .str)) := fun {H1} => ev_tupD (ea_c ev_str (ea_c ev_str ea_nil)) (by show 2 ≤ 1000; decide)
    have t3 : ∀ {H1 : Hp}, EvD (Vw.base H M wd) K (tTup (tCons (tC (.str "test")) (tCons (tC (.str "not")) (tCons (tC (.str "star")) tNil)))) [some vx, none, none] H1 (.tuple ((["test", "not", "star"] : List Str).map .str)) := fun {H1} => ev_tupD (ea_c ev_str (ea_c ev_str (ea_c ev_str ea_nil))) (by show 3 ≤ 1000; decide)
    rcases kindsX hp with ⟨f5, m5, hf, ea, en, i1⟩ | ⟨y, ea, en, oy, i1, i2⟩ | ⟨ys, ea, en, oy, i1, i2⟩
    · refine sq_yes (et_inTags (tg (Vw.refl ok)) t2 i1) ok fun H1 r1 => ?_
      rw [ea] at ht
      exact st_ret (W := Vw.base H M wd) (K := K) (F := fun d => d = .list [encN (f5, m5)]) (ev_lstD (ea_c (ev_tupD (ea_c (ev_arg1 rfl (dmono r1 ht)) (ea_c (ev_arg2 rfl (dmono r1 ht)) ea_nil)) (by simp)) ea_nil) (by simp)) r1.2 fun v d H2 e r2 dv => q v H2 d (show d = PyData.list ((numsX x).map encN) by rw [e, en]; rfl) r2.2 dv
    · refine sq_pass (et_inTags (tg (Vw.refl ok)) t2 i1) ok fun H1 r1 => ?_
      refine sq_yes (et_inTags (tg r1) t3 i2) r1.2 fun H2 r2 => ?_
      have r12 := rtrans r1 r2
      rw [ea] at ht
      exact st_ret (W := Vw.base H M wd) (K := K) (ev_call (x := y) (ea_c (ev_arg1 rfl (dmono r12 ht)) ea_nil) ⟨oy, by rw [← en]; exact hz⟩) r2.2 fun v d H3 e r3 dv => q v H3 d (show d = PyData.list ((numsX x).map encN) by rw [e, en]) r3.2 dv
    · refine sq_pass (et_inTags (tg (Vw.refl ok)) t2 i1) ok fun H1 r1 => ?_
      refine sq_pass (et_inTags (tg r1) t3 i2) r1.2 fun H2 r2 => ?_
      have r12 := rtrans r1 r2
      rw [ea] at ht
      rw [en] at hz
      refine sq_asg (W := Vw.base H M wd) (K := K) (F := fun d => d = .list []) (ev_lstD ea_nil (by simp)) r2.2 fun vf d H3 e r3 df => ?_
      subst e
      have r13 := rtrans r12 r3
      refine sq_for (W := Vw.base H M wd) (ds := ys.map encX) (ev_arg1 rfl (dmono r13 ht)) r3.2 fun H4 r4 => ?_
      refine ⟨fun i σ' H' => ∃ vf y2, σ' = [some vx, some vf, y2] ∧ (Vw.base H M wd).R H4 H' ∧ (Vw.base H M wd).D K H' vf (.list (((ys.take i).flatMap numsX).map encN)), ⟨vf, none, rfl, Vw.refl r4.2, dmono r4 df⟩, fun i σ' H' ⟨_, _, _, r, _⟩ => r.1, ?_, ?_⟩
      · rintro i d z σ' H' hd ⟨vf, y2, rfl, r5, dL⟩ dz
        rw [List.getElem?_map] at hd
        cases hyi : ys[i]? with
        | none => rw [hyi] at hd; cases hd
        | some y =>
        rw [hyi] at hd
        cases hd
        have hy := List.mem_of_getElem? hyi
        have et : (ys.take (i + 1)).flatMap numsX = (ys.take i).flatMap numsX ++ numsX y := by rw [List.take_add_one, hyi, List.flatMap_append]; simp
        have lt : ((ys.take (i + 1)).flatMap numsX).length ≤ 100000 := by
          refine Nat.le_trans ?_ hz
          conv => rhs; rw [← List.take_append_drop (i + 1) ys, List.flatMap_append, List.length_append]
          omega
        refine st_asg (W := Vw.base H M wd) (K := K) (ev_catS (F1 := fun d => d = .list (((ys.take i).flatMap numsX).map encN)) (ev_var rfl dL) (ev_call (x := y) (ea_c (ev_var rfl dz) ea_nil) ⟨oy y hy, Nat.le_trans (flat_part numsX ys hy) hz⟩) (G := fun d => d = .list (((ys.take (i + 1)).flatMap numsX).map encN)) ?_) r5.2 fun v d H6 e r6 dv => ?_
        · rintro e1 e2 rfl rfl
          refine ⟨_, _, rfl, rfl, ?_, by rw [et, List.map_append]⟩
          rw [et, List.length_append] at lt
          rw [List.length_map, List.length_map, sizeLine_eq]; omega
        · subst e
          exact ⟨v, some z, rfl, rtrans r5 r6, dv⟩
      · rintro σ' H' ⟨vf, y2, rfl, r5, dL⟩
        rw [List.length_map, List.take_length] at dL
        exact st_ret (W := Vw.base H M wd) (K := K) (ev_var rfl dL) r5.2 fun v d H6 e r6 dv => q v H6 d (show d = PyData.list ((numsX x).map encN) by rw [e, en]) r6.2 dv
end
end HB
/-! ## HBLSam -/
/-! _law_samples -/
namespace HB
open PySem PySem.Spec PyProof.Rows L2

theorem scLSam : FnScope ["_law_policies", "_law_rows", "_law_field", "_law_least", "_law_most", "_law_named", "_law_policy_here", "_law_others", "_law_number", "_law_name"] ["_law_policies"] (defScope (topS 24)) := ⟨rfl, rfl, rfl, by decide +kernel, rfl, by decide +kernel, by decide +kernel⟩
def numsF (f : Nat) (ns : List (Nat × Int)) : List Int := (ns.filter fun q => decide (q.1 = f)).map (·.2)
theorem numsF_mem {f : Nat} {ns : List (Nat × Int)} {x : Int} : x ∈ numsF f ns ↔ (f, x) ∈ ns := by
  unfold numsF
  rw [List.mem_map]
  constructor
  · rintro ⟨⟨g, y⟩, h, rfl⟩
    obtain ⟨h1, h2⟩ := List.mem_filter.mp h
    have : g = f := of_decide_eq_true h2
    rw [← this]; exact h1
  · intro h
    exact ⟨(f, x), List.mem_filter.mpr ⟨h, by simp⟩, rfl⟩
theorem numsF_app (f : Nat) (a b : List (Nat × Int)) : numsF f (a ++ b) = numsF f a ++ numsF f b := by unfold numsF; rw [List.filter_append, List.map_append]
theorem numsF_len (f : Nat) (a : List (Nat × Int)) : (numsF f a).length ≤ a.length := by unfold numsF; rw [List.length_map]; exact List.length_filter_le _ _
theorem inV_ints (x : Int) : ∀ ns : List Int, inV (.int x) (ns.map V.int) = decide (x ∈ ns)
  | [] => by simp [inV]
  | y :: ys => by
    have ih := inV_ints x ys
    unfold inV at ih ⊢
    rw [List.map_cons, List.any_cons, ih]
    show ((y == x) || decide (x ∈ ys)) = _
    by_cases e : y = x
    · subst e; simp
    · rw [show (y == x) = false from beq_eq_false_iff_ne.mpr e, Bool.false_or]
      by_cases k : x ∈ ys
      · rw [decide_eq_true k, decide_eq_true (List.mem_cons_of_mem _ k)]
      · rw [decide_eq_false k, decide_eq_false fun z => (List.mem_cons.mp z).elim (fun q => e q.symm) k]
section
variable {W : Vw} {K : PySem.W.Frag} {σ : L2.St} {H : Hp} {ta tb tl : TE} {t : TT}
theorem et_notInI {x : Int} {ns : List Int} (ha : EvD W K ta σ H (.int x)) (hb : EvD W K tb σ H (.list (ns.map .int))) : EvB W (tTest (tOp (rIn K true) ta tb)) σ H (!decide (x ∈ ns)) := by
  refine et_testD (ev_is (ev_in (neg := true) (d := .int x) (ds := ns.map .int) ha (ev_imp hb fun _ e => .inl e) rfl (by rw [List.all_map]; exact List.all_eq_true.mpr fun _ _ => rfl)) ?_)
  have e : (ns.map PyData.int).map dV = ns.map V.int := by rw [List.map_map]; rfl
  rw [if_pos rfl, e]
  show PyData.bool (!inV (.int x) _) = _
  rw [inV_ints]
/-- a pair of a name and a number is unpacked -/
theorem g_pair {i j f : Nat} {n : Int} {x : V} {Q : L2.St → Hp → Prop} (h : Dp K H x (encN (f, n))) (q : Q ((σ.set i (some (.str (fname f)))).set j (some (.int n))) H) : gTup K 2 (gCons (gName i) (gCons (gName j) gNil)) x σ H Q := by
  obtain ⟨p, zs, rfl, hs, hd⟩ := d_tup h
  have ez : zs = [.str (fname f), .int n] := by
    cases hd with
    | cons h1 h2 =>
      cases h2 with
      | cons h2 h3 => cases h3; cases h1; cases h2; rfl
  subst ez
  exact ⟨p, _, rfl, hs, rfl, _, _, rfl, _, _, rfl, rfl, q⟩
theorem g_three {i j k : Nat} {f : Str} {n m : Int} {x : V} {Q : L2.St → Hp → Prop} (h : Dp K H x (.tuple [.str f, .int n, .int m])) (q : Q (((σ.set i (some (.str f))).set j (some (.int n))).set k (some (.int m))) H) : gTup K 3 (gCons (gName i) (gCons (gName j) (gCons (gName k) gNil))) x σ H Q := by
  obtain ⟨p, zs, rfl, hs, hd⟩ := d_tup h
  have ez : zs = [.str f, .int n, .int m] := by
    cases hd with
    | cons h1 h2 =>
      cases h2 with
      | cons h2 h3 =>
        cases h3 with
        | cons h3 h4 => cases h4; cases h1; cases h2; cases h3; rfl
  subst ez
  exact ⟨p, _, rfl, hs, rfl, _, _, rfl, _, _, rfl, _, _, rfl, rfl, q⟩
/-- [number for name, number in pairs if name == field] -/
theorem ev_lcN {ns : List (Nat × Int)} {k1 k2 f : Nat} {vs : List Nat} (hl : EvD W K tl σ H (.list (ns.map encN))) (hw : ∀ x y, wipe (((wipe σ vs).set k1 (some x)).set k2 (some y)) vs = wipe σ vs)
    (ht : ∀ q ∈ ns, ∀ Dl acc H', InC W H Dl acc H' → EvB (W.plus Dl acc) t (((wipe σ vs).set k1 (some (.str (fname q.1)))).set k2 (some (.int q.2))) H' (decide (q.1 = f))) (hg : ∀ x y, (((wipe σ vs).set k1 (some x)).set k2 (some y))[k2]? = some (some y)) (hz : ns.length ≤ 100000) :
    EvD W K (tLc (iList K tl) (gTup K 2 (gCons (gName k1) (gCons (gName k2) gNil))) t (tVar k2) vs) σ H (.list ((numsF f ns).map .int)) := fun H0 a0 Q q => hl H0 a0 _ fun v H1 d fd a1 dv => by
  subst fd
  obtain ⟨p, xs, rfl, hsq, hd⟩ := d_lst dv
  have hxl := dps_len hd
  rw [List.length_map] at hxl
  refine ⟨p, rfl, ⟨xs, off_sub.seq hsq⟩, fun Dl hD => ?_⟩
  have ok1 : W.ok H1 := a1.2
  refine lc_list (K := K) (xs := xs) (LcP W K H1 Dl fun i out => out = (numsF f (ns.take i)).map .int) ⟨[], [], rfl, plus_start ok1 hD, plus_in hD (off_same (same_new hD)), .nil⟩ (fun i H' _ ⟨out, acc, _, _, psm, _⟩ => (off_sub (M := (W.plus Dl acc).M)).seq (psm.seq hsq)) (fun i x H' hx ⟨out, acc, pi, pok, psm, pds⟩ => ?_) (fun H' hp => ?_)
  · obtain ⟨d, hd1, hd2⟩ := dps_at' hd hx
    rw [List.getElem?_map] at hd1
    cases hni : ns[i]? with
    | none => rw [hni] at hd1; cases hd1
    | some qn =>
    rw [hni] at hd1
    cases hd1
    obtain ⟨g, n⟩ := qn
    refine g_pair (Vw.out (W := W.plus Dl acc) (dp_same psm hd2)) ⟨hw _ _, ?_⟩
    refine ht (g, n) (List.mem_of_getElem? hni) Dl acc H' ⟨pok, ((rtrans a0 a1).1).trans psm, H1, ok1, hD⟩ H' (Vw.refl pok) _ fun b H3 fb a3 => ?_
    subst fb
    have et : numsF f (ns.take (i + 1)) = numsF f (ns.take i) ++ (if decide (g = f) = true then [n] else []) := by
      rw [List.take_add_one, hni, numsF_app]
      congr 1
      show numsF f [(g, n)] = _
      unfold numsF
      by_cases e : g = f
      · simp [e]
      · simp [e]
    by_cases e : g = f
    · rw [decide_eq_true e, if_pos rfl]
      rw [decide_eq_true e, if_pos rfl] at et
      refine ⟨_, hg _ _, acc, a3.2.2, ?_, lcp_more ok1 hD ?_ a3.2 (psm.trans a3.1) (dsmono a3 pds) (.int n)⟩
      · rw [dps_len pds, pi, List.length_map]
        have h1 := numsF_len f (ns.take i)
        rw [List.length_take] at h1
        rw [sizeLine_eq]; omega
      · rw [pi, et, List.map_append]; rfl
    · rw [decide_eq_false e, if_neg Bool.false_ne_true]
      rw [decide_eq_false e, if_neg Bool.false_ne_true, List.append_nil] at et
      exact ⟨out, acc, by show out = _; rw [et]; exact pi, a3.2, psm.trans a3.1, dsmono a3 pds⟩
  · obtain ⟨out, pi, r, dl⟩ := lcp_end ok1 hD hp
    rw [hxl, List.take_length] at pi
    exact q _ H' _ (by rw [pi]) (rtrans a1 r) dl
end
def fieldRows : List PyData := [.tuple [.str "switch", .int 1, .int 8], .tuple [.str "port", .int 0, .int 6], .tuple [.str "src", .int 0, .int 15], .tuple [.str "dst", .int 0, .int 15], .tuple [.str "kind", .int 0, .int 15]]
theorem fieldRows_at {i : Nat} {d : PyData} (h : fieldRows[i]? = some d) : i < 5 ∧ d = .tuple [.str (fname i), .int (loF i), .int (hiF i)] := by
  match i, h with
  | 0, h => cases h; exact ⟨by decide, rfl⟩
  | 1, h => cases h; exact ⟨by decide, rfl⟩
  | 2, h => cases h; exact ⟨by decide, rfl⟩
  | 3, h => cases h; exact ⟨by decide, rfl⟩
  | 4, h => cases h; exact ⟨by decide, rfl⟩
  | i + 5, h => cases h
theorem row_made2 {ns : List (Nat × Int)} {f : Nat} {ms M : List Int} (m : ∀ x, x ∈ ms ↔ (f, x) ∈ ns) (pw : M.Pairwise (· < ·)) (mm : ∀ x, x ∈ M ↔ x ∈ ms ++ (othersL ns f).take 1) : IsRow ns f M := ⟨pw, fun x => by rw [mm, List.mem_append, m]⟩
abbrev spLSam (K : PySem.W.Frag) (n : Nat) : Sp := spA K (fun ps : List Pol => [.list (ps.map encP)]) (fun ps => ((∀ p ∈ ps, OkP' n p) ∧ (ps.flatMap nums).length ≤ 3900) ∧ ps.length ≤ 10)
  (fun ps d => ∃ rows, d = .list (rows.map encR) ∧ IsRows (ps.flatMap nums) rows)
theorem ev_lnum {W : Vw} {K : PySem.W.Frag} {σ : L2.St} {H : Hp} {te : TE} {n : Nat} {E : XK} (x : TP) (h : EvD W K te σ H (encX x)) (o : OkX n x) (z : (numsX x).length ≤ 100000) : EvD W K (tCall (spLNum K n) [] E (tCons te tNil)) σ H (.list ((numsX x).map encN)) :=
  ev_call (x := x) (args := fun x : TP => [encX x]) (ea_c h ea_nil) ⟨o, z⟩
section
variable {P : Program} {w : World} {K : PySem.W.Frag} {mg : Str → Option Value} {base : Heap}
theorem ok_lsam {f fN : Addr} {fd fdN : FuncData} {n : Nat} (F : Fun K "_law_samples" "_law_samples" (topS 24) f fd) (FN : Fun K "_law_numbers" "_law_numbers" (topS 23) fN fdN) (GN : FnOk P w K mg base CX0 (n + 3 + 1) fN fdN ["_law_part"] (spLNum K (n + 3))) (gN : mg "_law_numbers" = some (.ref fN)) (bN : Binds K fdN ["_law_part"] [])
    (mRange : mg "range" = none) (mSet : mg "set" = none) (mSorted : mg "sorted" = none) : FnOk P w K mg base CX0 (n + 3 + 1 + 1) f fd ["_law_policies"] (spLSam K n) := by
  refine F.ok scLSam (spA_len fun _ => rfl) (fun cdv A outer s H vs Q E hr h => ?_)
  obtain ⟨M, ps, wd, ha, ⟨⟨hp, hz⟩, hpl⟩, q⟩ := h
  cases ha with
  | cons hv ha =>
  cases ha
  rename_i vp
  refine ⟨_, pss_cons (ps_set (i := 1) scLSam.nd rfl (.inl rfl) (pe_lst pa_nil))
    (pss_cons (ps_for PassesOwn.never rfl (pi_list (pe_lst (pa_cons (pe_tup (pa_cons pe_str (pa_cons pe_int (pa_cons pe_int pa_nil)))) (pa_cons (pe_tup (pa_cons pe_str (pa_cons pe_int (pa_cons pe_int pa_nil)))) (pa_cons (pe_tup (pa_cons pe_str (pa_cons pe_int (pa_cons pe_int pa_nil)))) (pa_cons (pe_tup (pa_cons pe_str (pa_cons pe_int (pa_cons pe_int pa_nil)))) (pa_cons (pe_tup (pa_cons pe_str (pa_cons pe_int (pa_cons pe_int pa_nil)))) pa_nil)))))))
        (pg_tup rfl (pgs_cons (pg_name (i := 2) scLSam.nd rfl (.inr rfl)) (pgs_cons (pg_name (i := 3) scLSam.nd rfl (.inl rfl)) (pgs_cons (pg_name (i := 4) scLSam.nd rfl (.inl rfl)) pgs_nil))))
      (pss_cons (ps_set (i := 5) scLSam.nd rfl (.inr rfl) (pe_lst pa_nil))
      (pss_cons (ps_for PassesOwn.never rfl (pi_list (pv 0)) (pg_name (i := 6) scLSam.nd rfl (.inl rfl))
        (pss_one (ps_set (i := 5) scLSam.nd rfl (.inr rfl) (pe_op op_catS (pv 5) (pe_lc (own := [("_law_name", 9), ("_law_number", 8)]) (g := gTup K 2 (gCons (gName 9) (gCons (gName 8) gNil))) rfl scLSam.nd (pi_list (pe_call GN hr rfl gN FN.kp bN .nil pass0 (pa_cons (pv 6) pa_nil)))
          (blkOk_by (N := ["_law_policies", "_law_rows", "_law_field", "_law_least", "_law_most", "_law_named", "_law_policy_here", "_law_others", "_law_number", "_law_name"]) (sc := defScope (topS 24)) (by decide +kernel))
          (fun _ _ _ _ _ => (pg_tup rfl (pgs_cons (pg_name (i := 9) scLSam.nd rfl (Or.inl rfl)) (pgs_cons (pg_name (i := 8) scLSam.nd rfl (Or.inl rfl)) pgs_nil)) : PG _ _ (gTup K 2 (gCons (gName 9) (gCons (gName 8) gNil)))))
          (fun _ _ _ _ _ => pts_one (pt_cmpR op_eq (pv 9) (pv 2) (nomark _))) (fun _ _ _ _ _ => pv 8))))))
      (pss_cons (ps_setLc (i := 7) (own := [("_law_number", 8)]) (g := gName 8) rfl scLSam.nd rfl rfl (sw_true rfl rfl rfl (by decide +kernel)) (pi_range2 rfl mRange (pa_cons (pv 3) (pa_cons (pe_op op_add (pv 4) pe_int) pa_nil)))
          (blkOk_by (N := ["_law_policies", "_law_rows", "_law_field", "_law_least", "_law_most", "_law_named", "_law_policy_here", "_law_others", "_law_number", "_law_name"]) (sc := defScope (topS 24)) (by decide +kernel)) (fun _ _ _ _ _ => pg_name (i := 8) scLSam.nd rfl (Or.inl rfl))
          (fun _ _ _ _ _ => pts_one (pt_cmpR (op_notIn_seqK K) (pv 8) (pv 5) (by rfl))) (fun _ _ _ _ _ => pv 8))
      (pss_one (ps_expr (pe_bm PySem.F.plainAttrs_list PySem.F.slot_list_append PySem.F.type_list_append mt_append (pv 1) (pa_cons (pe_callB (cr_sortedSet rfl) rfl mSorted (by decide +kernel) (pa_cons (pe_callTy (cr_setI rfl) rfl mSet (by decide +kernel)
        (pa_cons (pe_op op_catS (pv 5) (pe_slice sl_list (pv 7) po_none (po_some pe_int))) pa_nil)) pa_nil)) pa_nil))))))))
    (pss_one (ps_ret (pv 1)))), ?_⟩
  have ok : (Vw.base H M wd).ok H := Same.refl H
  have hv : (Vw.base H M wd).D K H vp (.list (ps.map encP)) := hv
  have hpl : ps.length ≤ 10 := hpl
  have hp : ∀ p ∈ ps, OkP' n p := hp
  have hz : (ps.flatMap nums).length ≤ 3900 := hz
  have ons : OkNs (ps.flatMap nums) := okNs_of hp
  refine sq_nil (K := K) ok fun l H1 _ hl k1 sm1 => ?_
  refine sq_for (W := (Vw.base H M wd).plus l []) (ds := fieldRows) (ev_lstD (ea_c (ev_tupD (ea_c ev_str (ea_c ev_int (ea_c ev_int ea_nil))) (by simp)) (ea_c (ev_tupD (ea_c ev_str (ea_c ev_int (ea_c ev_int ea_nil))) (by simp)) (ea_c (ev_tupD (ea_c ev_str (ea_c ev_int (ea_c ev_int ea_nil))) (by simp)) (ea_c (ev_tupD (ea_c ev_str (ea_c ev_int (ea_c ev_int ea_nil))) (by simp)) (ea_c (ev_tupD (ea_c ev_str (ea_c ev_int (ea_c ev_int ea_nil))) (by simp)) ea_nil))))) (by show 5 ≤ 1000; decide)) k1.ok fun H2 r2 => ?_
  refine ⟨fun i σ' H' => ∃ rows xs y2 y3 y4 y5 y6 y7, σ' = [some vp, some (.ref l), y2, y3, y4, y5, y6, y7, none, none] ∧ Lat (Vw.base H M wd) K l xs (rows.map encR) H' ∧ Same (off ((Vw.base H M wd).plus l []).M H2) (off ((Vw.base H M wd).plus l xs).M H') ∧ rows.length = i ∧ ∀ f r, rows[f]? = some r → IsRow (ps.flatMap nums) f r,
    ⟨[], [], none, none, none, none, none, none, rfl, k1.mono r2, Same.refl _, rfl, fun f r h => by simp at h⟩, fun i σ' H' ⟨rows, xs, _, _, _, _, _, _, _, _, sm, _⟩ => sm, ?_, ?_⟩
  · rintro i d x σ' H' hd ⟨rows, xs, y2, y3, y4, y5, y6, y7, rfl, kl, sm, hi, hrow⟩ dx
    obtain ⟨i5, rfl⟩ := fieldRows_at hd
    have hin : Same (off (Vw.base H M wd).M H) (off ((Vw.base H M wd).plus l xs).M H') := (sm1.trans r2.1).trans sm
    refine g_three (Vw.out dx) ?_
    -- named
    refine sq_asg (W := (Vw.base H M wd).plus l xs) (K := K) (F := fun d => d = .list []) (ev_lstD ea_nil (by simp)) kl.ok fun v5 d H3 e r3 d5 => ?_
    subst e
    refine sq_for (W := (Vw.base H M wd).plus l xs) (ds := ps.map encP) (ev_var rfl (dp_same (hin.trans r3.1) hv)) r3.2 fun H4 r4 => ?_
    refine ⟨fun j σ' H' => ∃ v5 y6, σ' = [some vp, some (.ref l), some (.str (fname i)), some (.int (loF i)), some (.int (hiF i)), some v5, y6, y7, none, none] ∧ ((Vw.base H M wd).plus l xs).R H4 H' ∧ ((Vw.base H M wd).plus l xs).D K H' v5 (.list ((numsF i ((ps.take j).flatMap nums)).map .int)),
      ⟨v5, y6, rfl, Vw.refl r4.2, dmono r4 d5⟩, fun i σ' H' ⟨_, _, _, r, _⟩ => r.1, ?_, ?_⟩
    · rintro j d z σ' H5 hd ⟨v5, y6, rfl, r5, dL⟩ dz
      rw [List.getElem?_map] at hd
      cases hpj : ps[j]? with
      | none => rw [hpj] at hd; cases hd
      | some p =>
      rw [hpj] at hd
      cases hd
      have hpin := List.mem_of_getElem? hpj
      have pk : ∀ q ∈ nums p, q.1 < 5 := fun q hq => (ons q (List.mem_flatMap.mpr ⟨p, hpin, hq⟩)).1
      have lp : (nums p).length ≤ 3900 := Nat.le_trans (flat_part nums ps hpin) hz
      have et : (ps.take (j + 1)).flatMap nums = (ps.take j).flatMap nums ++ nums p := by rw [List.take_add_one, hpj, List.flatMap_append]; simp
      have lt : ((ps.take j).flatMap nums).length ≤ 3900 := by
        refine Nat.le_trans ?_ hz
        conv => rhs; rw [← List.take_append_drop j ps, List.flatMap_append, List.length_append]
        omega
      refine st_asg (W := (Vw.base H M wd).plus l xs) (K := K) (ev_catS (F1 := fun d => d = .list ((numsF i ((ps.take j).flatMap nums)).map .int)) (F2 := fun d => d = .list ((numsF i (nums p)).map .int)) (G := fun d => d = .list ((numsF i ((ps.take (j + 1)).flatMap nums)).map .int)) (ev_var rfl dL) (ev_lc_src (F := fun d => d = .list ((nums p).map encN)) (ev_lnum (.inr p) (ev_var rfl dz) ⟨n, Nat.le_refl _, hp p hpin⟩ (Nat.le_trans lp (by decide))) fun v d H6 fd r6 dv => ?_) ?_) r5.2 fun v d H6 e r6 dv => ?_
      · subst fd
        refine ev_lcN (f := i) (ev_c dv) (fun _ _ => rfl) (fun qn hq Dl acc H7 ic => ?_) (fun _ _ => rfl) (Nat.le_trans lp (by decide))
        refine et_testD (ev_is (ev_eqS (K := K) (x := fname qn.1) (y := fname i) (ev_var rfl (.str _)) (ev_var rfl (.str _))) ?_)
        rw [fname_ne (pk qn hq) i5]
      · rintro e1 e2 rfl rfl
        refine ⟨_, _, rfl, rfl, ?_, by rw [et, numsF_app, List.map_append]⟩
        have h1 := numsF_len i (nums p)
        have h2 := numsF_len i ((ps.take j).flatMap nums)
        rw [List.length_map, List.length_map, sizeLine_eq]; omega
      · subst e
        exact ⟨v, some z, rfl, rtrans r5 r6, dv⟩
    · rintro σ' H5 ⟨v5, y6, rfl, r5, dL⟩
      rw [List.length_map, List.take_length] at dL
      have rr : ((Vw.base H M wd).plus l xs).R H' H5 := rtrans r3 (rtrans r4 r5)
      have hm : ∀ x, x ∈ numsF i (ps.flatMap nums) ↔ (i, x) ∈ ps.flatMap nums := fun x => numsF_mem
      have lm : (numsF i (ps.flatMap nums)).length ≤ 3900 := Nat.le_trans (numsF_len _ _) hz
      generalize numsF i (ps.flatMap nums) = ms at dL hm lm
      have hll := hiF_lo i
      have hl15 := hiF_le i
      have olen : (othersL (ps.flatMap nums) i).length ≤ 16 := by
        have h1 := List.length_filter_le (fun x => !decide ((i, x) ∈ ps.flatMap nums)) ((List.range (hiF i + 1 - loF i)).map fun j : Nat => ((loF i : Nat) : Int) + (j : Nat))
        rw [List.length_map, List.length_range] at h1
        unfold othersL
        omega
      refine sq_asg (W := (Vw.base H M wd).plus l xs) (K := K) (F := fun d => d = .list ((othersL (ps.flatMap nums) i).map .int)) ?_ r5.2 fun vo d H6 e r6 dvo => ?_
      · refine ev_imp (ev_lcR2 (lo := (loF i : Int)) (n := hiF i + 1 - loF i) (by omega) (ea_c (ev_var rfl (.int _)) (ea_c (ev_addI (F1 := fun d => d = .int (hiF i : Int)) (F2 := fun d => d = .int 1) (ev_var rfl (.int _)) ev_int fun e1 e2 a1 a2 => ⟨_, _, a1, a2, ?_⟩) ea_nil)) (fun _ => rfl)
          (fun j out => j ≤ 16 ∧ out = (((List.range j).map fun i2 : Nat => ((loF i : Nat) : Int) + (i2 : Nat)).filter fun x => !decide (x ∈ ms)).map .int) ⟨Nat.zero_le _, rfl⟩ (fun j out ⟨hj, e⟩ => ?_) (fun j out ⟨_, pi⟩ hj Dl acc H7 ic => ⟨fun b => b = !decide (((loF i : Int) + (j : Int)) ∈ ms), et_notInI (ev_var rfl (.int _)) (ev_var rfl (dp_same ic.sm dL)), fun hb => ⟨fun e => e = .int ((loF i : Int) + (j : Int)), ev_var rfl (.int _), fun e he => ⟨by omega, ?_⟩⟩, fun hb => ⟨by omega, ?_⟩⟩)) ?_
        · congr 1
          omega
        · have h1 := List.length_filter_le (fun x => !decide (x ∈ ms)) ((List.range j).map fun i2 : Nat => ((loF i : Nat) : Int) + (i2 : Nat))
          rw [List.length_map, List.length_range] at h1
          rw [e, List.length_map, sizeLine_eq]
          omega
        · rw [pi, he, filt_step, if_pos hb.symm, List.map_append]; rfl
        · rw [pi, filt_step, if_neg (by rw [← hb]; exact Bool.false_ne_true), List.append_nil]
        · rintro d ⟨out, rfl, _, rfl⟩
          rw [others_take _ _ _ hm]; rfl
      · subst e
        have kl6 := kl.mono (rtrans rr r6)
        refine st_appP (W := Vw.base H M wd) (F := fun d => ∃ r, d = encR r ∧ IsRow (ps.flatMap nums) i r) rfl kl6 ⟨H, ok, hl⟩ ?_ (by rw [List.length_map, hi]; exact small1000 (by omega)) ?_
        · refine ev_sortedSetI (F := fun d => d = .list ((ms ++ (othersL (ps.flatMap nums) i).take 1).map .int)) (ev_catS (F1 := fun d => d = .list (ms.map .int)) (F2 := fun d => d = .list (((othersL (ps.flatMap nums) i).take 1).map .int)) (ev_var rfl (dmono r6 dL)) (ev_is (ev_slL (ev_var rfl dvo) eo_none (eo_some (K := K) ev_int)) ?_) ?_) ?_
          · rw [cut_1, List.map_take]
          · rintro e1 e2 rfl rfl
            refine ⟨_, _, rfl, rfl, ?_, by rw [List.map_append]⟩
            rw [List.length_map, List.length_map, List.length_take, sizeLine_eq]
            omega
          · rintro d rfl
            refine ⟨_, rfl, by rw [List.length_append, List.length_take]; omega, fun x hx => ?_, fun M' pw mm => ⟨M', rfl, row_made2 hm pw mm⟩⟩
            rcases List.mem_append.mp hx with hx | hx
            · exact (ons _ ((hm x).mp hx)).2
            · have := others_in (List.mem_of_mem_take hx)
              omega
        · rintro d ys H7 ⟨r, rfl, hr5⟩ k5 s5
          refine ⟨rows ++ [r], ys, _, _, _, _, _, _, rfl, by rw [List.map_append]; exact k5, ((sm.trans rr.1).trans r6.1).trans s5, by rw [List.length_append, hi]; rfl, fun f' r' h' => ?_⟩
          by_cases z : f' < rows.length
          · rw [List.getElem?_append_left z] at h'
            exact hrow f' r' h'
          · rw [List.getElem?_append_right (by omega)] at h'
            have z0 : f' - rows.length = 0 := by
              have := (List.getElem?_eq_some_iff.mp h').1
              simp at this; omega
            rw [z0] at h'
            cases h'
            have : f' = i := by omega
            rw [this]; exact hr5
  · rintro σ' H' ⟨rows, xs, y2, y3, y4, y5, y6, y7, rfl, kl, sm, hi, hrow⟩
    exact ⟨.ref l, rfl, q (.ref l) H' (.list (rows.map encR)) ⟨rows, rfl, hi, hrow⟩ kl.ok.1 (kl.give (Vw.fresh ok hl))⟩
end
end HB
/-! ## HBLAft -/
/-! _law_after -/
namespace HB
open PySem PySem.Spec PyProof.Rows L2

theorem scLAft : FnScope ["_law_policy_here", "_law_states_here", "_law_found", "_law_at", "_law_part", "_law_turn", "_law_more", "_law_state_here"] ["_law_policy_here", "_law_states_here"] (defScope (topS 22)) := ⟨rfl, rfl, rfl, by decide +kernel, rfl, by decide +kernel, by decide +kernel⟩
/-- the numbers stand in the rows -/
def InNs (rows : List (List Int)) (ns : List (Nat × Int)) : Prop := ∀ q ∈ ns, ∀ r, rows[q.1]? = some r → q.2 ∈ r
structure Arena (rows : List (List Int)) : Prop where
  five : rows.length = 5
  few : (prodP rows).length ≤ 400
theorem nodup_sub : ∀ (L B : List Sta), L.Nodup → (∀ s ∈ L, s ∈ B) → L.length ≤ B.length
  | [], B, _, _ => Nat.zero_le _
  | x :: l, B, hn, hs => by
    obtain ⟨h1, h2⟩ := List.nodup_cons.mp hn
    have hx : x ∈ B := hs x List.mem_cons_self
    have ih := nodup_sub l (B.erase x) h2 fun y hy => (List.mem_erase_of_ne (fun e : y = x => h1 (by rw [← e]; exact hy))).2 (hs y (List.mem_cons_of_mem _ hy))
    have e := List.length_erase_of_mem hx
    have hp : 0 < B.length := List.length_pos_of_mem hx
    rw [List.length_cons]
    omega
theorem Arena.le {rows : List (List Int)} (a : Arena rows) {M : List Sta} (n : M.Nodup) (h : ∀ s ∈ M, InRows rows s) : M.length ≤ 400 := Nat.le_trans (nodup_sub M (prodP rows) n fun s hs => (prodP_elem _ rows rfl s).mpr (h s hs)) a.few
theorem Arena.fewS {rows : List (List Int)} (a : Arena rows) {L : List Sta} (h : ∀ s ∈ L, InRows rows s) : FewS L := fun M n k => Nat.le_trans (a.le n fun s hs => h s (k s hs)) (by decide)
theorem Arena.ne {rows : List (List Int)} (a : Arena rows) {s : Sta} (h : InRows rows s) : s ≠ [] := fun z => by
  have := h.1
  rw [z, a.five] at this; cases this
/-- two lists without doubles, one within the other, of one length -/
theorem same_len {L M : List Sta} (nL : L.Nodup) (nM : M.Nodup) (h : ∀ s ∈ L, s ∈ M) (e : L.length = M.length) : ∀ s ∈ M, s ∈ L := fun s hs => by
  rcases Classical.em (s ∈ L) with k | k
  · exact k
  · have := nodup_sub (s :: L) M (List.nodup_cons.mpr ⟨k, nL⟩) fun t ht => by
      rcases List.mem_cons.mp ht with z | z
      · rw [z]; exact hs
      · exact h t z
    rw [List.length_cons] at this
    omega
theorem nodup_of (L : List Sta) : ∃ M : List Sta, M.Nodup ∧ ∀ s, s ∈ M ↔ s ∈ L := ⟨addL [] L, addL_nodup L [] List.nodup_nil, fun s => by rw [addL_mem]; simp⟩
abbrev spLAft (K : PySem.W.Frag) (n : Nat) : Sp := spA K (fun x : Pol × List Sta × List (List Int) => [encP x.1, .list (x.2.1.map encS)])
  (fun x => OkP' n x.1 ∧ Arena x.2.2 ∧ InNs x.2.2 (nums x.1) ∧ (∀ s ∈ x.2.1, InRows x.2.2 s) ∧ x.2.1.length ≤ 400) (fun x => SortedAfter (fun s' => ∃ s ∈ x.2.1, Den x.1 s s'))
theorem ev_listOf {W : Vw} {K : PySem.W.Frag} {σ : L2.St} {H : Hp} {ta : TE} {F G : PyData → Prop} (h : EvP W K ta σ H F) (k : ∀ e, F e → ∃ ds, (e = .list ds ∨ e = .tuple ds) ∧ G (.list ds)) : EvP W K (tCB (fun xs H Q => ∃ p ys, xs = [.ref p] ∧ (SqL K H p ys ∨ SqT K H p ys) ∧ ∀ l, H l = none → Q (.ref l) (upd H l (.lst ys))) (tCons ta tNil)) σ H G := fun H0 a0 Q q => h H0 a0 _ fun v H1 d f a1 dv => by
  obtain ⟨ds, e, g⟩ := k d f
  rcases e with rfl | rfl
  · obtain ⟨p, xs, rfl, hs, hd⟩ := d_lst dv
    exact ⟨p, xs, rfl, .inl (off_sub.seq hs), fun l hl => q _ _ _ g (rtrans a1 (Vw.newR a1.2 hl)) (Vw.newL a1.2 hl hd)⟩
  · obtain ⟨p, xs, rfl, hs, hd⟩ := d_tup dv
    exact ⟨p, xs, rfl, .inr (same_t off_sub hs), fun l hl => q _ _ _ g (rtrans a1 (Vw.newR a1.2 hl)) (Vw.newL a1.2 hl hd)⟩
section
variable {P : Program} {w : World} {K : PySem.W.Frag} {mg : Str → Option Value} {base : Heap}
theorem ok_laft {f fH : Addr} {fd fdH : FuncData} (F : Fun K "_law_after" "_law_after" (topS 22) f fd) (g : mg "_law_after" = some (.ref f)) (b : Binds K fd ["_law_policy_here", "_law_states_here"] [])
    (FH : Fun K "_law_holds" "_law_holds" (topS 21) fH fdH) (GH : FnOk P w K mg base CX0 5 fH fdH ["_law_test_here", "_law_state_here"] (spHolds K 3)) (gH : mg "_law_holds" = some (.ref fH)) (bH : Binds K fdH ["_law_test_here", "_law_state_here"] [])
    (mRange : mg "range" = none) (mSet : mg "set" = none) (mSorted : mg "sorted" = none) (mLen : mg "len" = none) (mList : mg "list" = none) : ∀ n, FnOk P w K mg base CX0 (n + 5) f fd ["_law_policy_here", "_law_states_here"] (spLAft K n)
  | 0 => fn_dead fun vs H Q E ⟨M, x, _, _, ⟨⟨m, hm, _⟩, _⟩, _⟩ => by omega
  | n + 1 => by
    have GS := ok_laft F g b FH GH gH bH mRange mSet mSorted mLen mList n
    refine F.ok scLAft (spA_len fun _ => rfl) (fun cdv A outer s H vs Q E hr h => ?_)
    obtain ⟨M, ⟨p, Ls, rows⟩, wd, ha, ⟨hp, hA, hN, hU, hl⟩, q⟩ := h
    cases ha with
    | cons hv ha =>
    cases ha with
    | cons hw ha =>
    cases ha
    rename_i vp vL
    refine ⟨_, pss_cons (ps_set (i := 2) scLAft.nd rfl (.inl rfl) (pe_lst pa_nil))
      (pss_cons (ps_if (pt_cmpR op_eq (pe_ix ix_tup (pv 0) pe_int (fun _ _ => rfl)) pe_str (nomark _))
        (pss_one (ps_setLc (i := 2) (own := [("_law_state_here", 7)]) (g := gName 7) rfl scLAft.nd rfl rfl (sw_true rfl rfl rfl (by decide +kernel)) (pi_list (pv 1))
          (blkOk_by (N := ["_law_policy_here", "_law_states_here", "_law_found", "_law_at", "_law_part", "_law_turn", "_law_more", "_law_state_here"]) (sc := defScope (topS 22)) (by decide +kernel)) (fun _ _ _ _ _ => pg_name (i := 7) scLAft.nd rfl (Or.inl rfl))
          (fun _ _ _ _ _ => pts_one (pt_val (pe_call GH (hr.mono (by omega)) rfl gH FH.kp bH .nil pass0 (pa_cons (pe_ix (ix_tupK K) (pv 0) pe_int (fun _ _ => rfl)) (pa_cons (pv 7) pa_nil))))) (fun _ _ _ _ _ => pv 7)))
        (pss_one (ps_if (pt_cmpR op_eq (pe_ix ix_tup (pv 0) pe_int (fun _ _ => rfl)) pe_str (nomark _))
          (pss_cons (ps_set (i := 3) scLAft.nd rfl (.inr rfl) (pe_bm PySem.F.plainAttrs_list PySem.F.slot_list_index PySem.F.type_list_index mt_index (pe_lst (pa_cons pe_str (pa_cons pe_str (pa_cons pe_str (pa_cons pe_str (pa_cons pe_str pa_nil)))))) (pa_cons (pe_ix ix_tup (pv 0) pe_int (fun _ _ => rfl)) pa_nil)))
          (pss_one (ps_setLc (i := 2) (own := [("_law_state_here", 7)]) (g := gName 7) (tt := tYes) rfl scLAft.nd rfl rfl (sw_true rfl rfl rfl (by decide +kernel)) (pi_list (pv 1))
            (blkOk_by (N := ["_law_policy_here", "_law_states_here", "_law_found", "_law_at", "_law_part", "_law_turn", "_law_more", "_law_state_here"]) (sc := defScope (topS 22)) (by decide +kernel)) (fun _ _ _ _ _ => pg_name (i := 7) scLAft.nd rfl (Or.inl rfl)) (fun _ _ _ _ _ => pts_nil)
            (fun _ _ _ _ _ => pe_op (op_catAK K) (pe_op (op_catAK K) (pe_slice (sl_tupAK K) (pv 7) po_none (po_some (pv 3))) (pe_tup (pa_cons (pe_ix (ix_tupK K) (pv 0) pe_int (fun _ _ => rfl)) pa_nil))) (pe_slice (sl_tupAK K) (pv 7) (po_some (pe_op op_add (pv 3) pe_int)) po_none)))))
          (pss_one (ps_if (pt_cmpR op_eq (pe_ix ix_tup (pv 0) pe_int (fun _ _ => rfl)) pe_str (nomark _))
            (pss_one (ps_for PassesOwn.never rfl (pi_list (pe_ix ix_tup (pv 0) pe_int (fun _ _ => rfl))) (pg_name (i := 4) scLAft.nd rfl (.inl rfl))
              (pss_one (ps_set (i := 2) scLAft.nd rfl (.inl rfl) (pe_op op_catS (pv 2) (pe_call GS hr rfl g F.kp b .nil pass0 (pa_cons (pv 4) (pa_cons (pv 1) pa_nil))))))))
            (pss_one (ps_if (pt_cmpR op_eq (pe_ix ix_tup (pv 0) pe_int (fun _ _ => rfl)) pe_str (nomark _))
              (pss_cons (ps_set (i := 2) scLAft.nd rfl (.inl rfl) (pe_callTy call_list_of rfl mList (by decide +kernel) (pa_cons (pv 1) pa_nil)))
              (pss_one (ps_for PassesOwn.never rfl (pi_list (pe_ix ix_tup (pv 0) pe_int (fun _ _ => rfl))) (pg_name (i := 4) scLAft.nd rfl (.inl rfl))
                (pss_one (ps_set (i := 2) scLAft.nd rfl (.inl rfl) (pe_call GS hr rfl g F.kp b .nil pass0 (pa_cons (pv 4) (pa_cons (pv 2) pa_nil))))))))
              (pss_cons (ps_set (i := 2) scLAft.nd rfl (.inl rfl) (pe_callTy call_list_of rfl mList (by decide +kernel) (pa_cons (pv 1) pa_nil)))
              (pss_one (ps_for PassesOwn.never rfl (pi_range1 rfl mRange (pa_cons pe_int pa_nil)) (pg_name (i := 5) scLAft.nd rfl (.inl rfl))
                (pss_cons (ps_set (i := 6) scLAft.nd rfl (.inl rfl) (pe_callB (cr_sortG rfl (hu65 hr)) rfl mSorted (by decide +kernel) (pa_cons (pe_callTy (cr_setG rfl (hu65 hr)) rfl mSet (by decide +kernel) (pa_cons (pe_op op_catS (pv 2) (pe_call GS hr rfl g F.kp b .nil pass0 (pa_cons (pe_ix ix_tup (pv 0) pe_int (fun _ _ => rfl)) (pa_cons (pv 2) pa_nil)))) pa_nil)) pa_nil)))
                (pss_cons (ps_if (pt_cmpR op_eq (pe_callB call_len_seq rfl mLen PySem.boot_len (pa_cons (pv 6) pa_nil)) (pe_callB cr_lenG rfl mLen PySem.boot_len (pa_cons (pe_callTy (cr_setG rfl (hu65 hr)) rfl mSet (by decide +kernel) (pa_cons (pv 2) pa_nil)) pa_nil)) (nomark _)) (pss_one ps_break) pss_nil)
                (pss_one (ps_set (i := 2) scLAft.nd rfl (.inl rfl) (pv 6)))))))))))))))
      (pss_one (ps_ret (pe_callB (cr_sortG rfl (hu65 hr)) rfl mSorted (by decide +kernel) (pa_cons (pe_callTy (cr_setG rfl (hu65 hr)) rfl mSet (by decide +kernel) (pa_cons (pv 2) pa_nil)) pa_nil))))), ?_⟩
    have ok : (Vw.base H M wd).ok H := Same.refl H
    have hw : (Vw.base H M wd).D K H vL (.list (Ls.map encS)) := hw
    have ht : (Vw.base H M wd).D K H vp (tagD (tagP p) (argP p)) := by rw [← encP_tag]; exact hv
    have hA : Arena rows := hA
    have hN : InNs rows (nums p) := hN
    have hU : ∀ s ∈ Ls, InRows rows s := hU
    have hl : Ls.length ≤ 400 := hl
    have l5 : ∀ {s : Sta}, InRows rows s → s.length = 5 := fun h => by rw [h.1, hA.five]
    -- the end: sorted(set(found))
    have fin : ∀ {vf : V} {y3 y4 y5 y6 : Option V} {H1 : Hp} (L : List Sta), (Vw.base H M wd).R H H1 → (Vw.base H M wd).D K H1 vf (.list (L.map encS)) → (∀ s ∈ L, InRows rows s) → (∀ s', s' ∈ L ↔ ∃ s ∈ Ls, Den p s s') →
        tRet (tCB (rSortG K P w) (tCons (tCB (rSetG K P w) (tCons (tVar 2) tNil)) tNil)) { nx := fun _ H' => Q .non H', rt := Q } [some vp, some vL, some vf, y3, y4, y5, y6, none] H1 := fun L r dL uL mL =>
      st_ret (W := Vw.base H M wd) (K := K) (ev_sortedSetG (G := SortedAfter (fun s' => ∃ s ∈ Ls, Den p s s')) (ev_var rfl dL) fun d e => ⟨L, e, hA.fewS uL, fun s hs => hA.ne (uL s hs), fun N nd m => ⟨N, rfl, nd, fun s => by rw [m, mL]⟩⟩) r.2 fun v d H2 e r2 dv => q v H2 d e r2.2 dv
    refine sq_asg (W := Vw.base H M wd) (K := K) (F := fun d => d = .list []) (ev_lstD ea_nil (by simp)) ok fun v0 d H1 e r1 d0 => ?_
    subst e
    have r1 : (Vw.base H M wd).R H H1 := r1
    cases p with
    | test t =>
      refine sq_yes (et_tag rfl (dmono r1 ht) (dq "test" rfl (by decide +kernel))) r1.2 fun H2 r2 => ?_
      have r12 := rtrans r1 r2
      refine st_asg (W := Vw.base H M wd) (K := K) (ev_lc (ds := Ls.map encS) (ev_var rfl (dmono r12 hw)) (fun _ => rfl) (fun i out => out = ((Ls.take i).filter fun s => holds t s).map encS) rfl (fun i out e => ?_) (fun i out d pi hd Dl acc H' x ic dx => ?_)) r12.2 ?_
      · have h1 := List.length_filter_le (fun s => holds t s) (Ls.take i)
        rw [List.length_take] at h1
        rw [e, List.length_map, sizeLine_eq]; omega
      · rw [List.getElem?_map] at hd
        cases hsi : Ls[i]? with
        | none => rw [hsi] at hd; cases hd
        | some si =>
        rw [hsi] at hd
        cases hd
        refine ⟨fun b => b = holds t si, et_BD (ev_call (x := (t, si)) (ea_c (ev_arg1 rfl (dp_same ic.sm (dmono r12 ht))) (ea_c (ev_var rfl dx) ea_nil)) ⟨okP'_test hp, l5 (hU si (List.mem_of_getElem? hsi))⟩), fun hb => ⟨fun e => e = encS si, ev_var rfl dx, fun e he => ?_⟩, fun hb => ?_⟩
        · rw [pi, he, List.take_add_one, hsi, List.filter_append, List.map_append]
          show _ = _ ++ (List.filter (fun s => holds t s) [si]).map encS
          rw [List.filter_cons, if_pos hb.symm]; rfl
        · rw [pi, List.take_add_one, hsi, List.filter_append, List.map_append]
          show _ = _ ++ (List.filter (fun s => holds t s) [si]).map encS
          rw [List.filter_cons, if_neg (by rw [← hb]; exact Bool.false_ne_true)]
          show _ = _ ++ []
          rw [List.append_nil]
      · rintro v d H3 ⟨out, rfl, rfl⟩ r3 dv
        rw [List.length_map, List.take_length] at dv
        refine fin (Ls.filter fun s => holds t s) (rtrans r12 r3) dv (fun s hs => hU s (List.mem_filter.mp hs).1) fun s' => ?_
        rw [List.mem_filter]
        constructor
        · exact fun ⟨h1, h2⟩ => ⟨s', h1, by rw [Den]; exact ⟨h2, rfl⟩⟩
        · rintro ⟨s, h1, h2⟩
          rw [Den] at h2
          rw [h2.2]; exact ⟨h1, h2.1⟩
    | set f5 k5 =>
      have hn := okP'_set hp
      refine sq_no (et_tag rfl (dmono r1 ht) (dq "set" rfl (by decide +kernel))) r1.2 fun H2 r2 => ?_
      have r12 := rtrans r1 r2
      refine st_yes' (et_tag rfl (dmono r12 ht) (dq "set" rfl (by decide +kernel))) r12.2 fun H3 r3 => ?_
      have r13 := rtrans r12 r3
      refine sq_asg (W := Vw.base H M wd) (K := K) (F := fun d => d = .int (f5 : Int)) (ev_fieldIx hn.1 ev_fieldsL (ev_arg1 rfl (dmono r13 ht))) r13.2 fun va d H4 e r4 da => ?_
      subst e
      obtain rfl := d_int da
      have r14 := rtrans r13 r4
      refine st_asg (W := Vw.base H M wd) (K := K) (ev_lc (ds := Ls.map encS) (ev_var rfl (dmono r14 hw)) (fun _ => rfl) (fun i out => out = ((Ls.take i).map fun s => s.set f5 k5).map encS) rfl (fun i out e => ?_) (fun i out d pi hd Dl acc H' x ic dx => ?_)) r14.2 ?_
      · rw [e, List.length_map, List.length_map, List.length_take, sizeLine_eq]; omega
      · rw [List.getElem?_map] at hd
        cases hsi : Ls[i]? with
        | none => rw [hsi] at hd; cases hd
        | some si =>
        rw [hsi] at hd
        cases hd
        have s5 : si.length = 5 := l5 (hU si (List.mem_of_getElem? hsi))
        have hlt : f5 < si.length := by have := hn.1; omega
        refine ⟨fun b => b = true, et_yes, fun _ => ⟨fun e => e = encS (si.set f5 k5), ?_, fun e he => ?_⟩, fun e => by cases e⟩
        · have e1 : encS (si.set f5 k5) = .tuple ((cutD (si.map .int) none (some (f5 : Int)) ++ [.int k5]) ++ cutD (si.map .int) (some ((f5 + 1 : Nat) : Int)) none) := by
            rw [cut_to _ (by rw [List.length_map]; omega), cut_from _ (by rw [List.length_map]; omega), ← set_cut si f5 k5 hlt]
            unfold encS
            rw [List.map_append, List.map_append, List.map_take, List.map_drop]; rfl
          have z1 : (cutD (si.map PyData.int) none (some (f5 : Int))).length ≤ 5 := by
            rw [cut_to _ (by rw [List.length_map]; omega), List.length_take, List.length_map]; omega
          have z2 : (cutD (si.map PyData.int) (some ((f5 + 1 : Nat) : Int)) none).length ≤ 5 := by
            rw [cut_from _ (by rw [List.length_map]; omega), List.length_drop, List.length_map]; omega
          rw [e1]
          refine ev_catAD (ev_catAD (ev_slA (ev_var rfl dx) eo_none (eo_some (K := K) (ev_var rfl (.int _)))) (ev_tupD (ea_c (ev_arg2 rfl (dp_same ic.sm (dmono r14 ht))) ea_nil) (by simp)) (by simp only [List.length_singleton]; omega)) (ev_slA (ev_var rfl dx) (eo_some (K := K) ?_) eo_none) (by rw [List.length_append]; simp only [List.length_singleton]; omega)
          exact ev_addI (F1 := fun d => d = .int (f5 : Int)) (F2 := fun d => d = .int 1) (ev_var rfl (.int (f5 : Int))) ev_int fun e1 e2 a1 a2 => ⟨_, _, a1, a2, rfl⟩
        · rw [pi, he, List.take_add_one, hsi]
          show _ = List.map encS (List.map _ (_ ++ [si]))
          rw [List.map_append, List.map_append]; rfl
      · rintro v d H5 ⟨out, rfl, rfl⟩ r5 dv
        rw [List.length_map, List.take_length] at dv
        refine fin (Ls.map fun s => s.set f5 k5) (rtrans r14 r5) dv (fun s hs => ?_) fun s' => ?_
        · obtain ⟨s0, h0, rfl⟩ := List.mem_map.mp hs
          exact (hU s0 h0).set fun r hr => hN (f5, k5) (by rw [nums]; simp) r hr
        · rw [List.mem_map]
          constructor
          · exact fun ⟨s, h1, h2⟩ => ⟨s, h1, by rw [Den, h2]⟩
          · rintro ⟨s, h1, h2⟩
            rw [Den] at h2
            exact ⟨s, h1, h2.symm⟩
    | sum ps =>
      obtain ⟨hl3, hok⟩ := okP'_sum hp
      refine sq_no (et_tag rfl (dmono r1 ht) (dq "sum" rfl (by decide +kernel))) r1.2 fun H2 r2 => ?_
      have r12 := rtrans r1 r2
      refine st_no' (et_tag rfl (dmono r12 ht) (dq "sum" rfl (by decide +kernel))) r12.2 fun H3 r3 => ?_
      have r13 := rtrans r12 r3
      refine st_yes' (et_tag rfl (dmono r13 ht) (dq "sum" rfl (by decide +kernel))) r13.2 fun H4 r4 => ?_
      have r14 := rtrans r13 r4
      have hNp : ∀ p ∈ ps, InNs rows (nums p) := fun p hp q hq => hN q (by rw [nums, numsL_eq]; exact List.mem_flatMap.mpr ⟨p, hp, hq⟩)
      refine st_for (W := Vw.base H M wd) (ds := encPs ps) (ev_arg1 rfl (dmono r14 ht)) r14.2 fun H5 r5 => ?_
      refine ⟨fun i σ' H' => ∃ (L : List Sta) (vf : V) (y4 : Option V), σ' = [some vp, some vL, some vf, none, y4, none, none, none] ∧ (Vw.base H M wd).R H5 H' ∧ (Vw.base H M wd).D K H' vf (.list (L.map encS)) ∧ L.length ≤ i * 400 ∧ (∀ s ∈ L, InRows rows s) ∧ ∀ s', s' ∈ L ↔ ∃ s ∈ Ls, ∃ p ∈ ps.take i, Den p s s',
        ⟨[], v0, none, rfl, Vw.refl r5.2, dmono (rtrans (rtrans r2 (rtrans r3 r4)) r5) d0, Nat.zero_le _, (fun _ h => (by cases h)), fun s' => by simp⟩, fun i σ' H' ⟨_, _, _, _, r, _⟩ => r.1, ?_, ?_⟩
      · rintro i d x σ' H' hd ⟨L, vf, y4, rfl, r6, dL, lL, uL, mL⟩ dx
        rw [encPs_eq, List.getElem?_map] at hd
        cases hpi : ps[i]? with
        | none => rw [hpi] at hd; cases hd
        | some pi =>
        rw [hpi] at hd
        cases hd
        have hpin := List.mem_of_getElem? hpi
        have i3 : i < 3 := by have := (List.getElem?_eq_some_iff.mp hpi).1; omega
        have rr := rtrans r14 (rtrans r5 r6)
        refine st_asg (W := Vw.base H M wd) (K := K) (F := fun d => ∃ A : List Sta, d = .list ((L ++ sortS A).map encS) ∧ A.Nodup ∧ (∀ s ∈ A, InRows rows s) ∧ ∀ s', s' ∈ A ↔ ∃ s ∈ Ls, Den pi s s') (ev_catS (F1 := fun d => d = .list (L.map encS)) (ev_var rfl dL) (ev_call (x := (pi, Ls, rows)) (args := fun x : Pol × List Sta × List (List Int) => [encP x.1, .list (x.2.1.map encS)]) (ea_c (ev_var rfl dx) (ea_c (ev_var rfl (dmono rr hw)) ea_nil)) ⟨hok pi hpin, hA, hNp pi hpin, hU, hl⟩) ?_) r6.2 ?_
        · rintro e1 e2 rfl ⟨A, rfl, nA, mA⟩
          have uA : ∀ s ∈ A, InRows rows s := fun s hs => by
            obtain ⟨s0, h0, d0⟩ := (mA s).mp hs
            exact den_in pi s0 s (hNp pi hpin) (hU s0 h0) d0
          have := hA.le nA uA
          refine ⟨_, _, rfl, rfl, ?_, A, by rw [List.map_append], nA, uA, mA⟩
          rw [List.length_map, List.length_map, sortS_len, sizeLine_eq]; omega
        · rintro v d H7 ⟨A, rfl, nA, uA, mA⟩ r7 dv
          have := hA.le nA uA
          refine ⟨L ++ sortS A, v, some x, rfl, rtrans r6 r7, dv, by rw [List.length_append, sortS_len]; omega, fun s hs => ?_, fun s' => ?_⟩
          · rcases List.mem_append.mp hs with h | h
            · exact uL s h
            · exact uA s (sortS_mem.mp h)
          · rw [List.mem_append, mL, sortS_mem, mA, List.take_add_one, hpi]
            constructor
            · rintro (⟨s, h1, p', h2, h3⟩ | ⟨s, h1, h3⟩)
              · exact ⟨s, h1, p', List.mem_append_left _ h2, h3⟩
              · exact ⟨s, h1, pi, List.mem_append_right _ (by simp), h3⟩
            · rintro ⟨s, h1, p', h2, h3⟩
              rcases List.mem_append.mp h2 with h2 | h2
              · exact .inl ⟨s, h1, p', h2, h3⟩
              · have : p' = pi := by simpa using h2
                exact .inr ⟨s, h1, this ▸ h3⟩
      · rintro σ' H' ⟨L, vf, y4, rfl, r6, dL, lL, uL, mL⟩
        refine fin L (rtrans r14 (rtrans r5 r6)) dL uL fun s' => ?_
        rw [mL, encPs_eq, List.length_map, List.take_length]
        constructor
        · rintro ⟨s, h1, p', h2, h3⟩
          exact ⟨s, h1, by rw [Den, denSum_iff]; exact ⟨p', h2, h3⟩⟩
        · rintro ⟨s, h1, h2⟩
          rw [Den, denSum_iff] at h2
          obtain ⟨p', h3, h4⟩ := h2
          exact ⟨s, h1, p', h3, h4⟩
    | seq ps =>
      obtain ⟨hl3, hok⟩ := okP'_seq hp
      refine sq_no (et_tag rfl (dmono r1 ht) (dq "seq" rfl (by decide +kernel))) r1.2 fun H2 r2 => ?_
      have r12 := rtrans r1 r2
      refine st_no' (et_tag rfl (dmono r12 ht) (dq "seq" rfl (by decide +kernel))) r12.2 fun H3 r3 => ?_
      have r13 := rtrans r12 r3
      refine st_no' (et_tag rfl (dmono r13 ht) (dq "seq" rfl (by decide +kernel))) r13.2 fun H4 r4 => ?_
      have r14 := rtrans r13 r4
      refine st_yes' (et_tag rfl (dmono r14 ht) (dq "seq" rfl (by decide +kernel))) r14.2 fun H4b r4b => ?_
      have r14 := rtrans r14 r4b
      have hNp : ∀ p ∈ ps, InNs rows (nums p) := fun p hp q hq => hN q (by rw [nums, numsL_eq]; exact List.mem_flatMap.mpr ⟨p, hp, hq⟩)
      refine sq_asg (W := Vw.base H M wd) (K := K) (ev_listOf (G := fun d => d = .list (Ls.map encS)) (ev_var rfl (dmono r14 hw)) fun e h => ⟨_, .inl h, rfl⟩) r14.2 fun vf d H5 e r5 df => ?_
      subst e
      have r15 := rtrans r14 r5
      refine st_for (W := Vw.base H M wd) (ds := encPs ps) (ev_arg1 rfl (dmono r15 ht)) r15.2 fun H6 r6 => ?_
      refine ⟨fun i σ' H' => ∃ (L : List Sta) (vf : V) (y4 : Option V), σ' = [some vp, some vL, some vf, none, y4, none, none, none] ∧ (Vw.base H M wd).R H6 H' ∧ (Vw.base H M wd).D K H' vf (.list (L.map encS)) ∧ L.length ≤ 400 ∧ (∀ s ∈ L, InRows rows s) ∧ ∀ s', s' ∈ L ↔ ∃ s ∈ Ls, DenSeq (ps.take i) s s',
        ⟨Ls, vf, none, rfl, Vw.refl r6.2, dmono r6 df, hl, hU, fun s' => by simp [DenSeq]⟩, fun i σ' H' ⟨_, _, _, _, r, _⟩ => r.1, ?_, ?_⟩
      · rintro i d x σ' H' hd ⟨L, vf, y4, rfl, r7, dL, lL, uL, mL⟩ dx
        rw [encPs_eq, List.getElem?_map] at hd
        cases hpi : ps[i]? with
        | none => rw [hpi] at hd; cases hd
        | some pi =>
        rw [hpi] at hd
        cases hd
        have hpin := List.mem_of_getElem? hpi
        refine st_asg (W := Vw.base H M wd) (K := K) (ev_call (x := (pi, L, rows)) (args := fun x : Pol × List Sta × List (List Int) => [encP x.1, .list (x.2.1.map encS)]) (ea_c (ev_var rfl dx) (ea_c (ev_var rfl dL) ea_nil)) ⟨hok pi hpin, hA, hNp pi hpin, uL, lL⟩) r7.2 ?_
        rintro v d H8 ⟨A, rfl, nA, mA⟩ r8 dv
        have uA : ∀ s ∈ A, InRows rows s := fun s hs => by
          obtain ⟨s0, h0, d0⟩ := (mA s).mp hs
          exact den_in pi s0 s (hNp pi hpin) (uL s0 h0) d0
        refine ⟨sortS A, v, some x, rfl, rtrans r7 r8, dv, by rw [sortS_len]; exact hA.le nA uA, fun s hs => uA s (sortS_mem.mp hs), fun s' => ?_⟩
        rw [sortS_mem, mA, List.take_add_one, hpi]
        show (∃ s ∈ L, Den pi s s') ↔ ∃ s ∈ Ls, DenSeq (ps.take i ++ [pi]) s s'
        constructor
        · rintro ⟨m, h1, h2⟩
          obtain ⟨s, h3, h4⟩ := (mL m).mp h1
          exact ⟨s, h3, denSeq_snoc.mpr ⟨m, h4, h2⟩⟩
        · rintro ⟨s, h1, h2⟩
          obtain ⟨m, h3, h4⟩ := denSeq_snoc.mp h2
          exact ⟨m, (mL m).mpr ⟨s, h1, h3⟩, h4⟩
      · rintro σ' H' ⟨L, vf, y4, rfl, r7, dL, lL, uL, mL⟩
        refine fin L (rtrans r15 (rtrans r6 r7)) dL uL fun s' => ?_
        rw [mL, encPs_eq, List.length_map, List.take_length]
        constructor
        · exact fun ⟨s, h1, h2⟩ => ⟨s, h1, by rw [Den]; exact h2⟩
        · exact fun ⟨s, h1, h2⟩ => ⟨s, h1, by rw [Den] at h2; exact h2⟩
    | star p =>
      have hps := okP'_star hp
      have hNp : InNs rows (nums p) := by rw [nums] at hN; exact hN
      refine sq_no (et_tag rfl (dmono r1 ht) (dq "star" rfl (by decide +kernel))) r1.2 fun H2 r2 => ?_
      have r12 := rtrans r1 r2
      refine st_no' (et_tag rfl (dmono r12 ht) (dq "star" rfl (by decide +kernel))) r12.2 fun H3 r3 => ?_
      have r13 := rtrans r12 r3
      refine st_no' (et_tag rfl (dmono r13 ht) (dq "star" rfl (by decide +kernel))) r13.2 fun H4 r4 => ?_
      have r14 := rtrans r13 r4
      refine st_no' (et_tag rfl (dmono r14 ht) (dq "star" rfl (by decide +kernel))) r14.2 fun H4b r4b => ?_
      have r14 := rtrans r14 r4b
      refine sq_asg (W := Vw.base H M wd) (K := K) (ev_listOf (G := fun d => d = .list (Ls.map encS)) (ev_var rfl (dmono r14 hw)) fun e h => ⟨_, .inl h, rfl⟩) r14.2 fun vf d H5 e r5 df => ?_
      subst e
      have r15 := rtrans r14 r5
      refine ⟨5000, rfl, by decide, by decide, ?_⟩
      refine for_range (lo := 0) (n := (5000 : Int).toNat) (fun i σ' H' => ∃ (L : List Sta) (vf : V) (y5 y6 : Option V), σ' = [some vp, some vL, some vf, none, none, y5, y6, none] ∧ (Vw.base H M wd).R H5 H' ∧ (Vw.base H M wd).D K H' vf (.list (L.map encS)) ∧ L.length ≤ 400 ∧ (∀ s ∈ L, InRows rows s) ∧ (∀ s ∈ Ls, s ∈ L) ∧
          (∀ s ∈ L, ∃ s0 ∈ Ls, Star (fun a b => Den p a b) s0 s) ∧ ∃ N : List Sta, N.Nodup ∧ (∀ s, s ∈ N ↔ s ∈ L) ∧ i ≤ N.length)
        ⟨Ls, vf, none, none, rfl, Vw.refl r5.2, df, hl, hU, (fun _ h => h), (fun s h => ⟨s, h, .refl _⟩), by obtain ⟨N, n1, n2⟩ := nodup_of Ls; exact ⟨N, n1, n2, Nat.zero_le _⟩⟩ ?_ ?_
      · rintro i σ' H' hi ⟨L, vf, y5, y6, rfl, r6, dL, lL, uL, subL, reL, N, nN, mN, iN⟩
        have rr := rtrans r15 r6
        refine sq_asg (W := Vw.base H M wd) (K := K) (F := fun d => ∃ N1 : List Sta, d = .list ((sortS N1).map encS) ∧ N1.Nodup ∧ ∀ s, s ∈ N1 ↔ s ∈ L ∨ ∃ t ∈ L, Den p t s)
          (ev_sortedSetG (F := fun d => ∃ A : List Sta, d = .list ((L ++ sortS A).map encS) ∧ ∀ s', s' ∈ A ↔ ∃ s ∈ L, Den p s s') (ev_catS (F1 := fun d => d = .list (L.map encS)) (ev_var rfl dL) (ev_call (x := (p, L, rows)) (args := fun x : Pol × List Sta × List (List Int) => [encP x.1, .list (x.2.1.map encS)]) (ea_c (ev_arg1 rfl (dmono rr ht)) (ea_c (ev_var rfl dL) ea_nil)) ⟨hps, hA, hNp, uL, lL⟩) ?_) ?_) r6.2 ?_
        · rintro e1 e2 rfl ⟨A, rfl, nA, mA⟩
          have uA : ∀ s ∈ A, InRows rows s := fun s hs => by
            obtain ⟨s0, h0, d0⟩ := (mA s).mp hs
            exact den_in p s0 s hNp (uL s0 h0) d0
          have := hA.le nA uA
          refine ⟨_, _, rfl, rfl, ?_, A, by rw [List.map_append], mA⟩
          rw [List.length_map, List.length_map, sortS_len, sizeLine_eq]; omega
        · rintro d ⟨A, rfl, mA⟩
          have uAll : ∀ s ∈ L ++ sortS A, InRows rows s := fun s hs => by
            rcases List.mem_append.mp hs with h | h
            · exact uL s h
            · obtain ⟨s0, h0, d0⟩ := (mA s).mp (sortS_mem.mp h)
              exact den_in p s0 s hNp (uL s0 h0) d0
          refine ⟨_, rfl, hA.fewS uAll, fun s hs => hA.ne (uAll s hs), fun N1 n1 m1 => ⟨N1, rfl, n1, fun s => ?_⟩⟩
          rw [m1, List.mem_append, sortS_mem, mA]
        · rintro vm d H7 ⟨N1, rfl, nN1, mN1⟩ r7 dm
          have u1 : ∀ s ∈ N1, InRows rows s := fun s hs => by
            rcases (mN1 s).mp hs with h | ⟨t, h, d0⟩
            · exact uL s h
            · exact den_in p t s hNp (uL t h) d0
          refine sq_if (W := Vw.base H M wd) (B := fun b => ∃ N0 : List Sta, N0.Nodup ∧ (∀ s, s ∈ N0 ↔ s ∈ L) ∧ b = decide (N1.length = N0.length)) (et_test (ev_eqI (G := fun d => ∃ N0 : List Sta, N0.Nodup ∧ (∀ s, s ∈ N0 ↔ s ∈ L) ∧ d = .bool (decide (N1.length = N0.length))) (F1 := fun d => d = .int (N1.length : Nat)) (F2 := fun d => ∃ N0 : List Sta, N0.Nodup ∧ (∀ s, s ∈ N0 ↔ s ∈ L) ∧ d = .int (N0.length : Nat))
            (ev_len (F := fun d => d = .list ((sortS N1).map encS)) (ev_var rfl dm) fun e h => ⟨_, .inl h, by rw [List.length_map, sortS_len]⟩) (ev_lenSetG (F := fun d => d = .list (L.map encS)) (ev_var rfl (dmono r7 dL)) fun e h => ⟨L, h, hA.fewS uL, fun N0 n0 m0 => ⟨N0, n0, m0, rfl⟩⟩) ?_) ?_) r7.2 ?_ ?_
          · rintro e1 e2 rfl ⟨N0, n0, m0, rfl⟩
            refine ⟨_, _, rfl, rfl, N0, n0, m0, ?_⟩
            by_cases z : N1.length = N0.length
            · rw [decide_eq_true z, decide_eq_true (by omega)]
            · rw [decide_eq_false z, decide_eq_false (by omega)]
          · rintro d ⟨N0, n0, m0, rfl⟩
            exact ⟨_, rfl, N0, n0, m0, rfl⟩
          · rintro ⟨N0, n0, m0, e0⟩ H8 r8
            have elen := of_decide_eq_true e0.symm
            have sub01 : ∀ s ∈ N0, s ∈ N1 := fun s hs => (mN1 s).mpr (.inl ((m0 s).mp hs))
            have sub10 := same_len n0 nN1 sub01 elen.symm
            have closed : ∀ a ∈ L, ∀ b, Den p a b → b ∈ L := fun a ha b hab => (m0 b).mp (sub10 b ((mN1 b).mpr (.inr ⟨a, ha, hab⟩)))
            refine fin L (rtrans r15 (rtrans r6 (rtrans r7 r8))) (dmono (rtrans r7 r8) dL) uL fun s' => ?_
            constructor
            · intro hs
              obtain ⟨s0, h0, st⟩ := reL s' hs
              exact ⟨s0, h0, by rw [Den]; exact st⟩
            · rintro ⟨s0, h0, st⟩
              rw [Den] at st
              exact star_mem (subL s0 h0) closed st
          · rintro ⟨N0, n0, m0, e0⟩ H8 r8
            have nlen := of_decide_eq_false e0.symm
            refine st_asg (W := Vw.base H M wd) (K := K) (ev_var rfl (dmono r8 dm)) r8.2 fun v d H9 e r9 dv => ?_
            subst e
            refine ⟨sortS N1, v, some (.int (0 + (i : Int))), some vm, rfl, rtrans r6 (rtrans r7 (rtrans r8 r9)), dv, by rw [sortS_len]; exact hA.le nN1 u1, fun s hs => u1 s (sortS_mem.mp hs), fun s hs => sortS_mem.mpr ((mN1 s).mpr (.inl (subL s hs))), fun s hs => ?_, sortS N1, sortS_nodup nN1, fun s => Iff.rfl, ?_⟩
            · rcases (mN1 s).mp (sortS_mem.mp hs) with h | ⟨t, h, d0⟩
              · exact reL s h
              · obtain ⟨s0, h0, st⟩ := reL t h
                exact ⟨s0, h0, .tail st d0⟩
            · rw [sortS_len]
              have l1 := nodup_sub N0 N1 n0 fun s hs => (mN1 s).mpr (.inl ((m0 s).mp hs))
              have l2 := nodup_sub N N0 nN fun s hs => (m0 s).mpr ((mN s).mp hs)
              omega
      · rintro σ' H' ⟨L, vf, y5, y6, rfl, r6, dL, lL, uL, subL, reL, N, nN, mN, iN⟩
        have := hA.le nN fun s hs => uL s ((mN s).mp hs)
        have : (5000 : Int).toNat = 5000 := rfl
        omega
end
end HB
/-! ## HBLOth -/
/-! _law_other -/
namespace HB
open PySem PySem.Spec PyProof.Rows L2

theorem scLOth : FnScope ["_law_state_here", "_law_policy_here", "_law_kind", "_law_test_here"] ["_law_state_here", "_law_policy_here"] (defScope (topS 25)) := ⟨rfl, rfl, rfl, by decide +kernel, rfl, by decide +kernel, by decide +kernel⟩
def OtherP (e : PyData) : Prop := ∃ q, e = encP q ∧ OkP 4 q ∧ (nums q).length ≤ 60
abbrev spLOth (K : PySem.W.Frag) : Sp := spL K (fun p : Pol => [encP p]) (fun p => OkP 2 p ∧ (nums p).length ≤ 27) (fun _ => OtherP)
section
variable {W : Vw} {K : PySem.W.Frag} {σ : L2.St} {H : Hp} {te tf : TE} {d e : PyData}
theorem ev_tagD1 {x : Str} (h : EvD W K te σ H d) : EvD W K (tTup (tCons (tC (.str x)) (tCons te tNil))) σ H (tagD x [d]) := ev_tupD (ea_c ev_str (ea_c h ea_nil)) (by simp)
theorem ev_two (h : EvD W K te σ H d) (k : EvD W K tf σ H e) : EvD W K (tLst (tCons te (tCons tf tNil))) σ H (.list [d, e]) := ev_lstD (ea_c h (ea_c k ea_nil)) (by simp)
theorem ev_revL {ds : List PyData} (h : EvD W K te σ H (.list ds)) : EvD W K (tRevL K te) σ H (.list ds.reverse) := fun H0 a0 Q q => h H0 a0 _ fun v H1 d f a1 dv => by
  subst f
  obtain ⟨p, xs, rfl, hs, hd⟩ := d_lst dv
  exact ⟨p, xs, rfl, off_sub.seq hs, fun l hl => q _ _ _ rfl (rtrans a1 (Vw.newR a1.2 hl)) (Vw.newL a1.2 hl (dps_rev hd))⟩
end
theorem rev_flat {α β : Type} (f : α → List β) : ∀ ts : List α, (ts.reverse.flatMap f).length = (ts.flatMap f).length
  | [] => rfl
  | t :: ts => by
    rw [List.reverse_cons, List.flatMap_append, List.length_append, rev_flat f ts, List.flatMap_cons, List.length_append]
    simp; omega
theorem encAll0 : encT (.all []) = tagD "all" [.list []] := by rw [encT]; rfl
section
variable {P : Program} {w : World} {K : PySem.W.Frag} {mg : Str → Option Value} {base : Heap}
theorem ok_loth {f fD fT fP : Addr} {fd fdD fdT fdP : FuncData} (F : Fun K "_law_other" "_law_other" (topS 25) f fd)
    (FD : Fun K "_law_draw" "_law_draw" (topS 18) fD fdD) (GD : FnOk P w K mg base CX0 1 fD fdD ["_law_state_here", "_law_many"] (spDraw K)) (gD : mg "_law_draw" = some (.ref fD)) (bD : Binds K fdD ["_law_state_here", "_law_many"] [])
    (FT : Fun K "_law_test" "_law_test" (topS 19) fT fdT) (GT : FnOk P w K mg base CX0 4 fT fdT ["_law_state_here", "_law_deep"] (spLTest K 2)) (gT : mg "_law_test" = some (.ref fT)) (bT : Binds K fdT ["_law_state_here", "_law_deep"] [])
    (FP : Fun K "_law_policy" "_law_policy" (topS 20) fP fdP) (GP : FnOk P w K mg base CX0 7 fP fdP ["_law_state_here", "_law_deep", "_law_fields"] (spLPol K 3)) (gP : mg "_law_policy" = some (.ref fP)) (bP : Binds K fdP ["_law_state_here", "_law_deep", "_law_fields"] []) :
    FnOk P w K mg base CX0 8 f fd ["_law_state_here", "_law_policy_here"] (spLOth K) := by
  refine F.ok scLOth (spL_len fun _ => rfl) (fun cdv A outer s H vs Q E hr h => ?_)
  obtain ⟨M, a, c, p, rest, rfl, ls, hM, wd, ha, ⟨hp, hz⟩, q⟩ := h
  cases ha with
  | cons hv ha =>
  cases ha
  rename_i vp
  refine ⟨_, pss_cons (ps_set (i := 2) scLOth.nd rfl (.inl rfl) (pe_call GD (hr.mono (by omega)) rfl gD FD.kp bD .nil pass0 (pa_cons (pv 0) (pa_cons pe_int pa_nil))))
    (pss_cons (ps_set (i := 3) scLOth.nd rfl (.inl rfl) (pe_call GT (hr.mono (by omega)) rfl gT FT.kp bT .nil pass0 (pa_cons (pv 0) (pa_cons pe_int pa_nil))))
    (pss_cons (ps_if (pt_cmpR op_eq (pv 2) pe_int (nomark _)) (pss_one (ps_ret (pe_tup (pa_cons pe_str (pa_cons (pe_lst (pa_cons (pv 1) (pa_cons (pv 1) pa_nil))) pa_nil))))) pss_nil)
    (pss_cons (ps_if (pt_cmpR op_eq (pv 2) pe_int (nomark _)) (pss_one (ps_ret (pe_tup (pa_cons pe_str (pa_cons (pe_lst (pa_cons (pe_tup (pa_cons pe_str (pa_cons (pe_lst (pa_cons (pe_tup (pa_cons pe_str (pa_cons (pv 3) pa_nil))) (pa_cons (pv 1) pa_nil))) pa_nil)))
        (pa_cons (pe_tup (pa_cons pe_str (pa_cons (pe_lst (pa_cons (pe_tup (pa_cons pe_str (pa_cons (pe_tup (pa_cons pe_str (pa_cons (pv 3) pa_nil))) pa_nil))) (pa_cons (pv 1) pa_nil))) pa_nil))) pa_nil))) pa_nil))))) pss_nil)
    (pss_cons (ps_if (pt_cmpR op_eq (pv 2) pe_int (nomark _)) (pss_one (ps_ret (pe_tup (pa_cons pe_str (pa_cons (pe_lst (pa_cons (pe_tup (pa_cons pe_str (pa_cons (pe_tup (pa_cons pe_str (pa_cons (pe_lst pa_nil) pa_nil))) pa_nil))) (pa_cons (pv 1)
        (pa_cons (pe_tup (pa_cons pe_str (pa_cons (pe_lst (pa_cons (pe_tup (pa_cons pe_str (pa_cons (pe_tup (pa_cons pe_str (pa_cons (pe_lst pa_nil) pa_nil))) pa_nil))) pa_nil)) pa_nil))) pa_nil)))) pa_nil))))) pss_nil)
    (pss_cons (ps_if (PW.pt (pw_and (pt_cmpR op_eq (pv 2) pe_int (nomark _)) (pw_and1 (pt_cmpR op_eq (pe_ix ix_tup (pv 1) pe_int (fun _ _ => rfl)) pe_str (nomark _))))) (pss_one (ps_ret (pe_tup (pa_cons pe_str (pa_cons (pe_revL (pe_ix ix_tup (pv 1) pe_int (fun _ _ => rfl))) pa_nil))))) pss_nil)
    (pss_cons (ps_if (pt_cmpR op_eq (pv 2) pe_int (nomark _)) (pss_one (ps_ret (pe_tup (pa_cons pe_str (pa_cons (pe_tup (pa_cons pe_str (pa_cons (pv 1) pa_nil))) pa_nil))))) pss_nil)
    (pss_cons (ps_if (pt_cmpR op_eq (pv 2) pe_int (nomark _)) (pss_one (ps_ret (pe_tup (pa_cons pe_str (pa_cons (pe_lst (pa_cons (pv 1) (pa_cons (pe_tup (pa_cons pe_str (pa_cons pe_str (pa_cons (pe_call GD (hr.mono (by omega)) rfl gD FD.kp bD .nil pass0 (pa_cons (pv 0) (pa_cons pe_int pa_nil))) pa_nil)))) pa_nil))) pa_nil))))) pss_nil)
    (pss_one (ps_ret (pe_call GP hr rfl gP FP.kp bP .nil pass0 (pa_cons (pv 0) (pa_cons pe_int (pa_cons (pe_lst (pa_cons pe_str (pa_cons pe_str (pa_cons pe_str (pa_cons pe_str (pa_cons pe_str pa_nil)))))) pa_nil))))))))))))), ?_⟩
  have hp : OkP 2 p := hp
  have hz : (nums p).length ≤ 27 := hz
  have L : Lawful (Vw.law H M a c hM wd) a c := Lawful.law
  have ok : (Vw.law H M a c hM wd).ok H := ⟨Same.refl _, ls⟩
  have hv : (Vw.law H M a c hM wd).D K H vp (encP p) := hv
  have fin : ∀ {v H1 e}, (Vw.law H M a c hM wd).ok H1 → (Vw.law H M a c hM wd).D K H1 v e → OtherP e → Q v H1 := fun k dv hde => q _ _ _ hde k.1 k.2 dv
  refine sq_asg (W := Vw.law H M a c hM wd) (K := K) (ev_draw (n := 7) L rfl ev_int (by decide)) ok fun vk dk H1 fk r1 dv1 => ?_
  obtain ⟨k, hk, rfl⟩ := fk
  obtain rfl := d_int dv1
  refine sq_asg (W := Vw.law H M a c hM wd) (K := K) (F := DrawnT 1) (ev_callL L rfl 1 (ea_c ev_int ea_nil) (by decide)) r1.2 fun vt dt H2 ft r2 dvt => ?_
  obtain ⟨t, rfl, ot, lt⟩ := ft
  have r12 := rtrans r1 r2
  have ot2 : OkT 2 t := ot.mono (by decide)
  have lt3 : (numsT t).length ≤ 3 := lt
  have kt : ∀ (j : Int) {H' : Hp}, EvB (Vw.law H M a c hM wd) (tTest (tOp rEq (tVar 2) (tC (.int j)))) [some (.ref a), some vp, some (.int (k : Int)), some vt] H' (decide ((k : Int) = j)) := fun j H' => et_eqI (K := K) (ev_var rfl (.int _)) ev_int
  -- kind 0
  refine sq_if (W := Vw.law H M a c hM wd) (kt 0) r2.2 (fun _ H3 r3 => ?_) (fun _ H3 r3 => ?_)
  · have r13 := rtrans r12 r3
    refine st_ret (W := Vw.law H M a c hM wd) (K := K) (ev_tagD1 (ev_two (ev_var rfl (dmono r13 hv)) (ev_var rfl (dmono r13 hv)))) r3.2 fun v e H4 he r4 dv => ?_
    subst he
    refine fin r4.2 dv ⟨.sum [p, p], by rw [encP, encPs_eq]; rfl, .sum (d := 3) (by simp) fun x hx => ?_, by rw [nums, numsL_eq]; simp; omega⟩
    rw [show x = p by simpa using hx]
    exact hp.mono (by decide)
  have r13 := rtrans r12 r3
  -- kind 1
  refine sq_if (W := Vw.law H M a c hM wd) (kt 1) r3.2 (fun _ H4 r4 => ?_) (fun _ H4 r4 => ?_)
  · have r14 := rtrans r13 r4
    have r24 := rtrans r3 r4
    refine st_ret (W := Vw.law H M a c hM wd) (K := K) (ev_tagD1 (ev_two (ev_tagD1 (ev_two (ev_tagD1 (ev_var rfl (dmono r24 dvt))) (ev_var rfl (dmono r14 hv)))) (ev_tagD1 (ev_two (ev_tagD1 (ev_tagD1 (ev_var rfl (dmono r24 dvt)))) (ev_var rfl (dmono r14 hv)))))) r4.2 fun v e H5 he r5 dv => ?_
    subst he
    refine fin r5.2 dv ⟨.sum [.seq [.test t, p], .seq [.test (.no t), p]], by simp [encP, encPs, encT, tagD], .sum (d := 3) (by simp) fun x hx => ?_, ?_⟩
    · have : x = .seq [.test t, p] ∨ x = .seq [.test (.no t), p] := by simpa using hx
      rcases this with rfl | rfl
      · refine .seq (d := 2) (by simp) fun y hy => ?_
        have : y = .test t ∨ y = p := by simpa using hy
        rcases this with rfl | rfl
        · exact .test ot2
        · exact hp
      · refine .seq (d := 2) (by simp) fun y hy => ?_
        have : y = .test (.no t) ∨ y = p := by simpa using hy
        rcases this with rfl | rfl
        · exact .test (.no ot)
        · exact hp
    · simp [nums, numsL, numsT]; omega
  have r14 := rtrans r13 r4
  -- kind 2
  refine sq_if (W := Vw.law H M a c hM wd) (kt 2) r4.2 (fun _ H5 r5 => ?_) (fun _ H5 r5 => ?_)
  · have r15 := rtrans r14 r5
    refine st_ret (W := Vw.law H M a c hM wd) (K := K) (ev_tagD1 (ev_lstD (ea_c (ev_tagD1 (ev_tagD1 (ev_lstD ea_nil (by simp)))) (ea_c (ev_var rfl (dmono r15 hv)) (ea_c (ev_tagD1 (ev_lstD (ea_c (ev_tagD1 (ev_tagD1 (ev_lstD ea_nil (by simp)))) ea_nil) (by simp))) ea_nil))) (by simp))) r5.2 fun v e H6 he r6 dv => ?_
    subst he
    refine fin r6.2 dv ⟨.seq [.test (.all []), p, .sum [.test (.all [])]], by simp [encP, encPs, encT, encTs, tagD], .seq (d := 3) (by simp) fun x hx => ?_, ?_⟩
    · have : x = .test (.all []) ∨ x = p ∨ x = .sum [.test (.all [])] := by simpa using hx
      rcases this with rfl | rfl | rfl
      · exact .test .nil
      · exact hp.mono (by decide)
      · refine .sum (d := 2) (by simp) fun y hy => ?_
        rw [show y = .test (.all []) by simpa using hy]
        exact .test .nil
    · simp [nums, numsL, numsT, numsTs]; omega
  have r15 := rtrans r14 r5
  -- kind 3
  refine sq_if (W := Vw.law H M a c hM wd) (et_and (kt 3) fun _ => et_testD (ev_tagEq (x := tagP p) (r := argP p) rfl (by rw [← encP_tag]; exact dmono r15 hv))) r5.2 (fun hb H6 r6 => ?_) (fun _ H6 r6 => ?_)
  · have r16 := rtrans r15 r6
    have tg : decide (tagP p = "sum") = true := by
      rcases hb with ⟨h, _⟩ | ⟨_, h⟩
      · cases h
      · exact h.symm
    cases p with
    | sum ps =>
      have hargs : ps.length ≤ 3 ∧ ∀ p ∈ ps, OkP 1 p := by
        cases hp with
        | sum l h => exact ⟨l, h⟩
      refine st_ret (W := Vw.law H M a c hM wd) (K := K) (ev_tagD1 (ev_revL (ds := encPs ps) (ev_arg1 (x := "sum") (r := []) rfl (by rw [show tagD "sum" [.list (encPs ps)] = encP (.sum ps) by rw [encP]]; exact dmono r16 hv)))) r6.2 fun v e H7 he r7 dv => ?_
      subst he
      refine fin r7.2 dv ⟨.sum ps.reverse, by rw [encP, encPs_eq, encPs_eq, List.map_reverse], .sum (d := 3) (by rw [List.length_reverse]; exact hargs.1) fun x hx => (hargs.2 x (by simpa using hx)).mono (by decide), ?_⟩
      rw [nums, numsL_eq, rev_flat, ← numsL_eq]
      rw [nums] at hz
      omega
    | test t => exact absurd (of_decide_eq_true tg) (by show ¬ (("test" : Str) = "sum"); decide +kernel)
    | set f m => exact absurd (of_decide_eq_true tg) (by show ¬ (("set" : Str) = "sum"); decide +kernel)
    | seq ps => exact absurd (of_decide_eq_true tg) (by show ¬ (("seq" : Str) = "sum"); decide +kernel)
    | star ps => exact absurd (of_decide_eq_true tg) (by show ¬ (("star" : Str) = "sum"); decide +kernel)
  have r16 := rtrans r15 r6
  -- kind 4
  refine sq_if (W := Vw.law H M a c hM wd) (kt 4) r6.2 (fun _ H7 r7 => ?_) (fun _ H7 r7 => ?_)
  · refine st_ret (W := Vw.law H M a c hM wd) (K := K) (ev_tagD1 (ev_tagD1 (ev_var rfl (dmono (rtrans r16 r7) hv)))) r7.2 fun v e H8 he r8 dv => ?_
    subst he
    exact fin r8.2 dv ⟨.star (.star p), by simp [encP, tagD], .star (.star hp), by simp [nums]; omega⟩
  have r17 := rtrans r16 r7
  -- kind 5
  refine sq_if (W := Vw.law H M a c hM wd) (kt 5) r7.2 (fun _ H8 r8 => ?_) (fun _ H8 r8 => ?_)
  · refine st_ret (W := Vw.law H M a c hM wd) (K := K) (F := fun e => ∃ m : Nat, m < 16 ∧ e = tagD "seq" [.list [encP p, tagD "set" [.str "dst", .int m]]]) (ev_imp (ev_tag2 (F := fun e => ∃ m : Nat, m < 16 ∧ e = .list [encP p, tagD "set" [.str "dst", .int m]]) (ev_imp (ev_lst (ea_cons (F := fun e => e = encP p) (ev_var rfl (dmono (rtrans r17 r8) hv)) (ea_one (ev_tag3 (F := fun e => e = .str "dst") ev_str (ev_draw (n := 16) L rfl ev_int (by decide))))) ?_) ?_)) ?_) r8.2 fun v e H9 he r9 dv => ?_
    · rintro ds ⟨d, r, rfl, _, d2, rfl, _⟩
      simp
    · rintro e ⟨ds, rfl, d, r, rfl, rfl, d2, rfl, e1, e2, rfl, rfl, m, hm, rfl⟩
      exact ⟨m, hm, rfl⟩
    · rintro e ⟨e1, rfl, m, hm, rfl⟩
      exact ⟨m, hm, rfl⟩
    · obtain ⟨m, hm, rfl⟩ := he
      refine fin r9.2 dv ⟨.seq [p, .set 3 m], by simp [encP, encPs, tagD, fname], .seq (d := 3) (by simp) fun x hx => ?_, by simp [nums, numsL]; omega⟩
      have : x = p ∨ x = .set 3 m := by simpa using hx
      rcases this with rfl | rfl
      · exact hp.mono (by decide)
      · exact .set ⟨by decide, by omega, by omega⟩
  -- another one
  refine st_ret (W := Vw.law H M a c hM wd) (K := K) (F := DrawnP 2) (ev_callL L rfl 2 (ea_c ev_int (ea_c (ev_lstD (ds := drawnD) (ea_c ev_str (ea_c ev_str (ea_c ev_str (ea_c ev_str (ea_c ev_str ea_nil))))) (by show 5 ≤ 1000; decide)) ea_nil)) (by decide)) r8.2 fun v e H9 he r9 dv => ?_
  obtain ⟨q', rfl, oq, lq⟩ := he
  exact fin r9.2 dv ⟨q', rfl, oq.mono (by decide), Nat.le_trans lq (by decide)⟩
end
end HB
/-! ## HBTopR -/
/-! the law's def is run where no guard stands -/
namespace HB
open PySem PySem.Spec PyProof.Rows L2
section
variable {P : Program} {w : World} {K : PySem.W.Frag} {mg : Str → Option Value}
/-- a def called straight from the caller -/
theorem run_top {base : Heap} {k : Nat} {f : Addr} {fd : FuncData} {x : Str} {st : Stmt} {N ps : List Str} {s : Shared} {H : Hp} {us : List Value} {vs : List V} {Q : VK} {args : Args}
    (F : Fun K x x st f fd) (S : FnScope N ps (defScope st)) (hl : vs.length = ps.length) (hr : Room (k + 1) callerA) (e0 : Env0 P w K mg base callerA [] s H) (hb : BindsTo s fd args (ps.zip us)) (r : Vals vs us)
    (hbody : ∀ cdv, Room k (callerA.deeper (envOfC x (defScope st) s.heap.objs.size f cdv)) → ∃ t, PSs (cxOf CX0 P w K mg base N x (defScope st) f cdv callerA [] s H E0).nox (defBody st) t ∧ t { nx := fun _ H' => Q .non H', rt := Q } (start N vs) H) :
    codeAny (model P w) callerA (.call (.ref f) args) (CR CX0 [] P w H s Q E0) s := by
  obtain ⟨oc, od, kV, doc, pm, an, cdv, ct, osl, rfl, lk, hcd⟩ := F.ex
  have KX : K.In s.heap := e0.mod.kin.keeps fun b o e => (e0.bs b o e).1
  have lim : s.heap.NoLimit := e0.mod.nolimit.keeps fun b o e => (e0.bs b o e).1
  refine codeAny_call_function hr.depth (KX _ _ lk) rfl S.co S.gen rfl (PySem.W.codeRec_of KX hcd) (hb _ _ _ _ ?_)
  refine wpAny_newFunctionEnv_cells S.kind (fun ⟨n, v⟩ hy => ?_) fun env he s1 x1 => ?_
  · rcases S.par n (List.of_mem_zip hy).1 with q | q
    · exact .inl q
    · exact .inr ⟨q, PySem.W.cellsFrom_some _ _ _ (.inl q)⟩
  · subst he
    refine ⟨lim.keeps x1.toInCall.keep, codeAny_func ?_⟩
    obtain ⟨t, ht, hq⟩ := hbody cdv (hr.deeper _)
    have I := inv_start (CX := CX0) (E := E0) S hr.hd e0 hl r x1
    have I0 : Inv (cxOf CX0 P w K mg base N x (defScope st) f cdv callerA [] s H E0) [] (start N vs) H s1 := I
    refine wpAny_mono (ht.nox.run [] s1 (start N vs) H _ I0 hq) (fun fl s' hs => ?_) fun e s' hs => hs
    match fl, hs with
    | .ret u, ⟨v, σ', H', J, rv, q⟩ => exact ⟨v, H', J.os, J.bare, J.base, J.hok, rv, q⟩
    | .next, ⟨σ', H', J, q⟩ => exact ⟨.non, H', J.os, J.bare, J.base, J.hok, rfl, q⟩
    | .brk, ⟨_, _, _, q⟩ => exact False.elim q
    | .cont, ⟨_, _, _, q⟩ => exact False.elim q
/-- what stands at the law's call: nothing is told but the script -/
structure AtLaw (P : Program) (w : World) (K : PySem.W.Frag) (mg : Str → Option Value) (s : Shared) (a : Addr) (ns : List Int) (H : Hp) (base : Heap) : Prop where
  env : Env0 P w K mg base callerA [] s H
  kin : K.In base
  nsg : base.Ns mainGlobals mg
  seq : SqL K H a (ns.map V.int)
  only : Only H
theorem at_law {mb : Str → Option Value} {a : Addr} {s : Shared} {vs : List Value} {ns : List Int}
    (KX : K.In s.heap) (hns : s.heap.Ns mainGlobals mg) (hb : s.heap.Ns builtinsNs mb) (hbb : ∀ x : Str, x ≠ "__name__" → mb x = bootBuiltins x) (hlim : s.heap.NoLimit) (hg : s.gens = #[])
    (ha : s.heap.get? a = some { cls := .type "list", data := .seq vs.toArray }) (hi : IntsAre vs ns) (hl : ns.length ≤ sizeLine) : ∃ H base, AtLaw P w K mg s a ns H base := by
  have rv := vals_ints hi
  have lenV := hi.length
  -- the script among the module's objects, or apart from them
  let frz : HO := .frz { cls := .type "list", data := .seq vs.toArray } (.lst (ns.map V.int))
  obtain ⟨H, hH, hS, hk⟩ : ∃ H : Hp, (∀ b, H b = none ∨ (b = a ∧ H b = some frz)) ∧ SqL K H a (ns.map V.int) ∧ (H a ≠ none → K.lookup a = none) := by
    cases hk : K.lookup a with
    | some o =>
      have e := KX a o hk
      rw [ha] at e
      cases e
      exact ⟨fun _ => none, fun _ => .inl rfl, .inr ⟨_, vs.toArray, _, hk, rfl, rfl, rfl, by rw [List.size_toArray, lenV]; exact hl, by simpa using rv⟩, fun z => absurd rfl z⟩
    | none =>
      refine ⟨fun b => if b = a then some frz else none, fun b => ?_, .inl (.inr ⟨_, if_pos rfl⟩), fun _ => rfl⟩
      by_cases e : b = a
      · exact .inr ⟨e, if_pos e⟩
      · exact .inl (if_neg e)
  have hok : HOk P w H s.heap := fun b u z => by
    rcases hH b with q | ⟨rfl, q⟩
    · rw [q] at z; cases z
    · rw [q] at z
      cases z
      exact ⟨ha, by rw [List.length_map]; exact hl, vs, _, rv, ha⟩
  have out : ∀ {b : Addr} {o : Obj}, s.heap.get? b = some o → (b = a → H b = none) → (hidT s.heap H).get? b = some o := fun {b o} e h => hidT_get e (by
    rcases hH b with q | ⟨z, q⟩
    · exact q
    · exact h z)
  have nsK : ∀ {b : Addr} {m : Str → Option Value}, s.heap.Ns b m → (hidT s.heap H).Ns b m := fun {b m} ⟨o, es, ep, e, d, r⟩ => ⟨o, es, ep, out e (fun z => by
    subst z
    rw [ha] at e
    cases e
    exact absurd (show Data.seq vs.toArray _ = Data.dict es ep from d) (by simp)), d, r⟩
  have hKb : K.In (hidT s.heap H) := fun b o e => out (KX b o e) fun z => by
    subst z
    cases q : H b with
    | none => rfl
    | some u => rw [hk (by rw [q]; simp)] at e; cases e
  obtain ⟨mc, h1, h2⟩ := hlim
  exact ⟨H, hidT s.heap H, ⟨rfl, ⟨hKb, nsK hns, ⟨mb, nsK hb, hbb⟩, mc, nsK h1, h2⟩, fun b o e => of_hidT e, Nat.le_of_eq (hidT_size _ _), trivial, (fun b h => nomatch h), hok, .of_eq hg⟩, hKb, nsK hns, hS, fun b => by
    rcases hH b with q | ⟨_, q⟩
    · exact .inl q
    · exact .inr ⟨_, _, q⟩⟩
/-- its end -/
theorem law_done {a : Addr} {s : Shared} {ns : List Int} {H : Hp} {base : Heap} (L : AtLaw P w K mg s a ns H base) {r : Result} {s' : Shared} (h : CR CX0 [] P w H s (fun v _ => v = .bl true) E0 r s') : r = .ok (.ret (.bool true)) ∧ OldK s.heap s'.heap ∧ s'.os = s.os ∧ AllBare s'.gens := by
  match r, h with
  | .error e, h => exact h.elim
  | .ok .next, h => exact h.elim
  | .ok .brk, h => exact h.elim
  | .ok .cont, h => exact h.elim
  | .ok (.ret u), ⟨v, H', os, bare, un, hok', r', q⟩ =>
    have q' : v = .bl true := q
    subst q'
    obtain rfl : u = Value.bool true := r'
    refine ⟨rfl, OldK.of_keep fun b o e => ?_, os, bare⟩
    rcases L.only b with q | ⟨ob, xs, q⟩
    · exact un.keep b o e q (by intro z; exact absurd (show b ∈ ([] : List Addr) from z) (by simp)) (by simp)
    · obtain ⟨e1, _⟩ := L.env.hok b _ q
      obtain ⟨e2, _⟩ := hok' b _ (un.frzs b ob _ q)
      rw [e] at e1; cases e1
      exact e2
end
/-- the walk, by the law's body -/
theorem walk_top {l : PySem.W.OpenLaw} {n k : Nat} {q : Program} {loose : List Str} {XP : (Str → Option Value) → Heap → Prop} {YP : World → Heap → Prop} {d : DefRec} {K : Params → PySem.W.Frag} {st : Stmt} {x : Str} {N : List Str}
    (hn : l.most = some n) (hn2 : n ≤ sizeLine) (hdf : d.params.defaults = []) (hr : Room (k + 1) callerA) (hY : ∀ (w : World) (h : Heap), YP w h → (K w.params).In h) (S : FnScope N [x] (defScope st))
    (F : ∀ (w : World) (mg : Str → Option Value) (fa : Addr) (h : Heap), (K w.params).In h → h.Ns mainGlobals mg → mg d.name = some (.ref fa) →
      ∃ fd : FuncData, Fun (K w.params) d.name d.name st fa fd ∧ (∀ (s : Shared) (u : Value), BindsTo s fd ⟨[u], []⟩ [(x, u)]) ∧
        ∀ (base : Heap) (s : Shared) (H : Hp) (a : Addr) (ns : List Int) (cdv : Value), (K w.params).In base → base.Ns mainGlobals mg → SqL (K w.params) H a (ns.map V.int) → ns.length ≤ n →
          Room k (callerA.deeper (envOfC d.name (defScope st) s.heap.objs.size fa cdv)) →
          ∃ t, PSs (cxOf CX0 l.prog w (K w.params) mg base N d.name (defScope st) fa cdv callerA [] s H E0).nox (defBody st) t ∧ t { nx := fun _ H' => False, rt := fun v _ => v = .bl true } (start N [.ref a]) H) :
    PySem.W.WalkO q loose XP YP l.row.toRowW d [] (fun f vs => PySem.call f vs) := by
  refine Att.attach_call hn hdf fun w s₀ s₁ mg mb fa o pm cd doc a vs ns G Y ho hd hcd hmg hobj hints hlen hg => ?_
  have KX := hY w _ Y
  obtain ⟨fd, FF, hb, hF⟩ := F w mg fa _ KX G.T.g hmg
  obtain ⟨H, base, L⟩ := at_law (P := l.prog) (w := w) KX G.T.g G.T.b G.T.builtins G.T.nolimit hg hobj hints (Nat.le_trans hlen hn2)
  refine codeAny_mono (run_top (k := k) (N := N) (ps := [x]) (vs := [.ref a]) (us := [.ref a]) (Q := fun v _ => v = .bl true) FF S rfl hr L.env (hb s₁ (.ref a)) (.cons rfl .nil) fun cdv rm => ?_) fun r s' h => law_done L h
  obtain ⟨t, ht, hq⟩ := hF base s₁ H a ns cdv L.kin L.nsg L.seq hlen rm
  refine ⟨t, ht, ?_⟩
  have e : (fun (_ : L2.St) (H' : Hp) => (fun (v : V) (_ : Hp) => v = V.bl true) .non H') = fun (_ : L2.St) (H' : Hp) => False := by
    funext _ _
    exact propext ⟨fun z => (nomatch z), False.elim⟩
  rw [e]
  exact hq
end HB
/-! ## HBNice -/
/-! repr of policies -/
namespace HB
open PySem PySem.Spec PyProof.Rows L2

structure Nice (D Wt : Nat) (d : PyData) : Prop where
  lay : d.canLay0 = true
  shw : d.showable = true
  lv : d.leavesShort 8 = true
  dp : d.depth ≤ D
  wt : d.weight ≤ Wt
structure NiceAll (D Wt : Nat) (ds : List PyData) : Prop where
  lay : PyData.canLayAll0 ds = true
  shw : PyData.showableAll ds = true
  lv : PyData.leavesShortAll 8 ds = true
  dp : PyData.depthAll ds ≤ D
  wt : PyData.weightAll ds ≤ Wt
theorem Nice.mono {D D' Wt Wt' : Nat} {d : PyData} (h : Nice D Wt d) (a : D ≤ D') (b : Wt ≤ Wt') : Nice D' Wt' d := ⟨h.lay, h.shw, h.lv, Nat.le_trans h.dp a, Nat.le_trans h.wt b⟩
theorem niceA_nil {D : Nat} : NiceAll D 0 [] := ⟨by rw [PyData.canLayAll0], by rw [PyData.showableAll], by rw [PyData.leavesShortAll], by rw [PyData.depthAll]; exact Nat.zero_le _, by rw [PyData.weightAll]; exact Nat.le_refl _⟩
theorem niceA_cons {D W1 W2 : Nat} {d : PyData} {ds : List PyData} (h : Nice D W1 d) (k : NiceAll D W2 ds) : NiceAll D (W1 + 1 + W2) (d :: ds) :=
  ⟨by rw [PyData.canLayAll0, h.lay, k.lay]; rfl, by rw [PyData.showableAll, h.shw, k.shw]; rfl, by rw [PyData.leavesShortAll, h.lv, k.lv]; rfl, by
    have := h.dp
    have := k.dp
    rw [PyData.depthAll]; omega, by
    have := h.wt
    have := k.wt
    rw [PyData.weightAll]; omega⟩
theorem nice_list {D Wt : Nat} {ds : List PyData} (h : NiceAll D Wt ds) : Nice (D + 1) Wt (.list ds) := ⟨by rw [PyData.canLay0]; exact h.lay, by rw [PyData.showable]; exact h.shw, by rw [PyData.leavesShort]; exact h.lv, by rw [PyData.depth]; exact Nat.succ_le_succ h.dp, by rw [PyData.weight]; exact h.wt⟩
theorem nice_tup {D Wt : Nat} {ds : List PyData} (h : NiceAll D Wt ds) : Nice (D + 1) Wt (.tuple ds) := ⟨by rw [PyData.canLay0]; exact h.lay, by rw [PyData.showable]; exact h.shw, by rw [PyData.leavesShort]; exact h.lv, by rw [PyData.depth]; exact Nat.succ_le_succ h.dp, by rw [PyData.weight]; exact h.wt⟩
theorem niceA_few {D Wt : Nat} : ∀ {ds : List PyData}, (∀ d ∈ ds, Nice D Wt d) → NiceAll D (ds.length * (Wt + 1)) ds
  | [], _ => by rw [List.length_nil, Nat.zero_mul]; exact niceA_nil
  | d :: ds, h => by
    have := niceA_cons (h d List.mem_cons_self) (niceA_few fun e he => h e (List.mem_cons_of_mem _ he))
    rw [List.length_cons, Nat.succ_mul]
    rw [show ds.length * (Wt + 1) + (Wt + 1) = Wt + 1 + ds.length * (Wt + 1) by omega]
    exact this
theorem nice_str {x : Str} (h1 : PyData.strOk x = true) (h2 : (PyData.str x).leavesShort 8 = true) (h3 : (PyData.str x).weight ≤ 20) : Nice 0 20 (.str x) := ⟨by rw [PyData.canLay0]; exact h1, by rw [PyData.showable], h2, by rw [PyData.depth]; exact Nat.le_refl _, h3⟩
theorem nice_f (f : Nat) : Nice 0 20 (.str (fname f)) := by
  unfold fname
  split <;> exact nice_str (by decide +kernel) (by decide +kernel) (by decide +kernel)
theorem nice_int {n : Int} (h0 : 0 ≤ n) (h1 : n ≤ 15) : Nice 0 20 (.int n) := by
  have : n = 0 ∨ n = 1 ∨ n = 2 ∨ n = 3 ∨ n = 4 ∨ n = 5 ∨ n = 6 ∨ n = 7 ∨ n = 8 ∨ n = 9 ∨ n = 10 ∨ n = 11 ∨ n = 12 ∨ n = 13 ∨ n = 14 ∨ n = 15 := by omega
  rcases this with h | h | h | h | h | h | h | h | h | h | h | h | h | h | h | h <;> subst h <;> exact ⟨by decide +kernel, by decide +kernel, by decide +kernel, by decide +kernel, by decide +kernel⟩
theorem nice_t1 {D Wt : Nat} {x : Str} {d : PyData} (t : Nice 0 20 (.str x)) (h : Nice D Wt d) : Nice (D + 1) (Wt + 22) (tagD x [d]) := (nice_tup (niceA_cons (t.mono (Nat.zero_le D) (Nat.le_refl 20)) (niceA_cons h niceA_nil))).mono (Nat.le_refl _) (by omega)
theorem nice_t2 {x : Str} {f : Nat} {n : Int} (t : Nice 0 20 (.str x)) (h : OkN f n) : Nice 1 63 (tagD x [.str (fname f), .int n]) := (nice_tup (niceA_cons t (niceA_cons (nice_f f) (niceA_cons (nice_int h.2.1 h.2.2) niceA_nil)))).mono (Nat.le_refl _) (by omega)
def wT : Nat → Nat
  | 0 => 63
  | d + 1 => 3 * (wT d + 1) + 22
def wP : Nat → Nat
  | 0 => wT 2 + 22
  | d + 1 => 3 * (wP d + 1) + 22
theorem nice_T : ∀ {d : Nat} {t : Tst}, OkT d t → Nice (2 * d + 2) (wT d) (encT t) := by
  intro d t h
  induction h with
  | @is d f n h =>
    rw [encT]
    refine (nice_t2 (nice_str (by decide +kernel) (by decide +kernel) (by decide +kernel)) h).mono (by omega) ?_
    cases d with
    | zero => exact Nat.le_refl 63
    | succ d =>
      have : ∀ d, 63 ≤ wT d := fun d => by
        induction d with
        | zero => exact Nat.le_refl 63
        | succ d ih => show 63 ≤ 3 * (wT d + 1) + 22; omega
      exact this _
  | @no d t h ih =>
    rw [encT]
    exact (nice_t1 (nice_str (by decide +kernel) (by decide +kernel) (by decide +kernel)) ih).mono (by omega) (by show wT d + 22 ≤ 3 * (wT d + 1) + 22; omega)
  | @all d ts l h ih =>
    rw [encT, encTs_eq]
    have := niceA_few (D := 2 * d + 2) (Wt := wT d) (ds := ts.map encT) fun e he => by
      obtain ⟨t, ht, rfl⟩ := List.mem_map.mp he
      exact ih t ht
    rw [List.length_map] at this
    have m : ts.length * (wT d + 1) ≤ 3 * (wT d + 1) := Nat.mul_le_mul_right _ l
    exact (nice_t1 (nice_str (by decide +kernel) (by decide +kernel) (by decide +kernel)) (nice_list this)).mono (by omega) (by show _ ≤ 3 * (wT d + 1) + 22; omega)
  | @any d ts l h ih =>
    rw [encT, encTs_eq]
    have := niceA_few (D := 2 * d + 2) (Wt := wT d) (ds := ts.map encT) fun e he => by
      obtain ⟨t, ht, rfl⟩ := List.mem_map.mp he
      exact ih t ht
    rw [List.length_map] at this
    have m : ts.length * (wT d + 1) ≤ 3 * (wT d + 1) := Nat.mul_le_mul_right _ l
    exact (nice_t1 (nice_str (by decide +kernel) (by decide +kernel) (by decide +kernel)) (nice_list this)).mono (by omega) (by show _ ≤ 3 * (wT d + 1) + 22; omega)
  | @nil d =>
    rw [encT, encTs]
    refine (nice_t1 (nice_str (by decide +kernel) (by decide +kernel) (by decide +kernel)) (nice_list (D := 0) niceA_nil)).mono (by omega) ?_
    cases d with
    | zero => exact (by decide : 0 + 22 ≤ 63)
    | succ d => show 0 + 22 ≤ 3 * (wT d + 1) + 22; omega
theorem wP_ge (d : Nat) : wT 2 + 22 ≤ wP d := by
  induction d with
  | zero => exact Nat.le_refl _
  | succ d ih => show _ ≤ 3 * (wP d + 1) + 22; omega
theorem nice_P : ∀ {d : Nat} {p : Pol}, OkP d p → Nice (2 * d + 7) (wP d) (encP p) := by
  intro d t h
  induction h with
  | @test d t h =>
    rw [encP]
    exact (nice_t1 (nice_str (by decide +kernel) (by decide +kernel) (by decide +kernel)) (nice_T h)).mono (by omega) (wP_ge d)
  | @set d f n h =>
    rw [encP]
    exact (nice_t2 (nice_str (by decide +kernel) (by decide +kernel) (by decide +kernel)) h).mono (by omega) (Nat.le_trans (by decide) (wP_ge d))
  | @sum d ts l h ih =>
    rw [encP, encPs_eq]
    have := niceA_few (D := 2 * d + 7) (Wt := wP d) (ds := ts.map encP) fun e he => by
      obtain ⟨t, ht, rfl⟩ := List.mem_map.mp he
      exact ih t ht
    rw [List.length_map] at this
    have m : ts.length * (wP d + 1) ≤ 3 * (wP d + 1) := Nat.mul_le_mul_right _ l
    exact (nice_t1 (nice_str (by decide +kernel) (by decide +kernel) (by decide +kernel)) (nice_list this)).mono (by omega) (by show _ ≤ 3 * (wP d + 1) + 22; omega)
  | @seq d ts l h ih =>
    rw [encP, encPs_eq]
    have := niceA_few (D := 2 * d + 7) (Wt := wP d) (ds := ts.map encP) fun e he => by
      obtain ⟨t, ht, rfl⟩ := List.mem_map.mp he
      exact ih t ht
    rw [List.length_map] at this
    have m : ts.length * (wP d + 1) ≤ 3 * (wP d + 1) := Nat.mul_le_mul_right _ l
    exact (nice_t1 (nice_str (by decide +kernel) (by decide +kernel) (by decide +kernel)) (nice_list this)).mono (by omega) (by show _ ≤ 3 * (wP d + 1) + 22; omega)
  | @star d p h ih =>
    rw [encP]
    exact (nice_t1 (nice_str (by decide +kernel) (by decide +kernel) (by decide +kernel)) ih).mono (by omega) (by show wP d + 22 ≤ 3 * (wP d + 1) + 22; omega)
/-- [policy, other] -/
theorem nice_two {p q : Pol} (hp : OkP 6 p) (hq : OkP 6 q) : Nice 20 1040000 (.list [encP p, encP q]) := (nice_list (niceA_cons (nice_P hp) (niceA_cons (nice_P hq) niceA_nil))).mono (by decide) (by decide)
/-- repr(x) of such data, where no guard stands -/
def rRepr (K : PySem.W.Frag) : List V → Hp → VK → Prop := fun vs H Q => ∃ (a : Addr) (d : PyData), vs = [.ref a] ∧ Dp K H (.ref a) d ∧ Nice 20 1040000 d ∧ Q (.str d.shown) H
theorem cr_repr {X : Cx} (hg : X.A.guards = some []) (hu : X.A.units + 64 < cLine) : CallR X (.builtin "repr") (rRepr X.K) := by
  intro pins s σ H vs us Q I r ⟨a, d, e, hd, n, q⟩
  subst e
  rw [Vals.ref1 r]
  obtain ⟨as, rd⟩ := Dp.reads I d _ _ hd (show RelV (.ref a) (.ref a) from rfl)
  refine repr_of_reads' rd n.shw (PyData.noDict_hsm (PyData.hasDict_of_canLay d n.lay)) hg (by have := n.dp; omega) (fun _ _ e => e) (fun h' u tk hk => ?_) (PyData.shown_fits (B := 8) (Nat.le_refl 8) (by decide) n.lv (Nat.le_trans n.wt (by decide)))
  exact ⟨.str d.shown, H, I.kept (t' := tk) hk, ⟨u, rfl⟩, q⟩
theorem ev_repr {W : Vw} {K : PySem.W.Frag} {σ : L2.St} {H : Hp} {ta : TE} {d : PyData} (h : EvD W K ta σ H d) (n : Nice 20 1040000 d) (l : ∃ ds, d = .list ds) : EvD W K (tCB (rRepr K) (tCons ta tNil)) σ H (.str d.shown) := fun H0 a0 Q q => h H0 a0 _ fun v H1 d' f a1 dv => by
  subst f
  obtain ⟨ds, rfl⟩ := l
  obtain ⟨p, xs, rfl, hs, hd⟩ := d_lst dv
  exact ⟨p, _, rfl, Vw.out dv, n, q _ H1 _ rfl a1 (.str _)⟩
end HB
/-! ## HBLaw -/
/-! law -/
namespace HB
open PySem PySem.Spec PyProof.Rows L2

abbrev lawN : List Str := ["_law_script", "_law_state_here", "_law_policy_here", "_law_other_here", "_law_kept", "_law_rows", "_law_named", "_law_states_here", "_law_differing", "_law_told", "_law_turn", "_law_place", "_law_same", "_law_number", "_law_name", "_law_one", "_law_k"]
theorem scLaw : FnScope lawN ["_law_script"] (defScope (topS 27)) := ⟨rfl, rfl, rfl, by decide +kernel, rfl, by decide +kernel, by decide +kernel⟩
section
variable {W : Vw} {K : PySem.W.Frag} {σ : L2.St} {H : Hp} {D : Ends} {te : TE} {t : TT} {t1 u : TS} {B : Bool → Prop} {F : PyData → Prop} {g : TG}
theorem sq_ifR {R : L2.St → Hp → Prop} (rest : ∀ σ' H', R σ' H' → u D σ' H') (h : EvT W t σ H B) (ok : W.ok H) (k1 : B true → ∀ H1, W.R H H1 → ∀ D' : Ends, (∀ σ' H', R σ' H' → D'.nx σ' H') → t1 D' σ H1) (k2 : B false → ∀ H1, W.R H H1 → R σ H1) : tSeq (tIfS t t1 tNext) u D σ H :=
  sq_if h ok (fun b H1 r => k1 b H1 r _ rest) fun b H1 r => rest _ _ (k2 b H1 r)
theorem st_asgG (h : EvP W K te σ H F) (ok : W.ok H) (k : ∀ v d H1, F d → W.R H H1 → W.D K H1 v d → g v σ H1 D.nx) : tAsg te g D σ H := h H (Vw.refl ok) _ fun v H2 d f a dv => k v d H2 f a dv
theorem g_two {i j : Nat} {d1 d2 : PyData} {x : V} {Q : L2.St → Hp → Prop} (h : W.D K H x (.tuple [d1, d2])) (q : ∀ v1 v2, W.D K H v1 d1 → W.D K H v2 d2 → Q ((σ.set i (some v1)).set j (some v2)) H) : gTup K 2 (gCons (gName i) (gCons (gName j) gNil)) x σ H Q := by
  obtain ⟨p, zs, rfl, hs, hd⟩ := d_tup h
  cases hd with
  | cons h1 h2 =>
    cases h2 with
    | cons h2 h3 =>
      cases h3
      exact ⟨p, _, rfl, same_t off_sub hs, rfl, _, _, rfl, _, _, rfl, rfl, q _ _ h1 h2⟩
theorem ne_same {d : PyData} (h : d.canLay0 = true) : PyData.bool (!PyData.eqv d d) = .bool false := by rw [SeqAt.eqv_refl d h]; rfl
theorem lay_Rs : ∀ rows : List (List Int), PyData.canLayAll0 (rows.map encR) = true
  | [] => by simp [PyData.canLayAll0]
  | r :: rows => by rw [List.map_cons, PyData.canLayAll0, lay_Rs rows, Bool.and_true]; unfold encR; rw [PyData.canLay0]; exact lay_ints r
theorem dep_Rs : ∀ rows : List (List Int), PyData.depthAll (rows.map encR) ≤ 1
  | [] => by simp [PyData.depthAll]
  | r :: rows => by
    have h1 := dep_Rs rows
    have h2 : (encR r).depth = 1 := by unfold encR; rw [PyData.depth, dep_ints]
    rw [List.map_cons, PyData.depthAll]
    omega
theorem lay_R (rows : List (List Int)) : (PyData.list (rows.map encR)).canLay0 = true := by rw [PyData.canLay0]; exact lay_Rs rows
theorem shaped_R (rows : List (List Int)) : SeqAt.shaped (.list (rows.map encR)) = true := shaped_of (lay_R rows) (by
  have := dep_Rs rows
  rw [PyData.depth]; omega)
theorem lay_tell (o : Option Sta) : (tellD o).canLay0 = true := by
  cases o with
  | none => show PyData.none.canLay0 = true; rw [PyData.canLay0]
  | some s => exact lay_S s
theorem shaped_tell (o : Option Sta) : SeqAt.shaped (tellD o) = true := by
  cases o with
  | none => exact shaped_of (lay_tell none) (by show PyData.none.depth ≤ 64; rw [PyData.depth]; decide)
  | some s => exact shaped_S s
theorem et_isN {i : Nat} {v : V} (h : σ[i]? = some (some v)) : EvB W (tB (tIsN (tVar i))) σ H (decide (v = .non)) := fun H1 a Q q => ⟨v, h, _, rfl, q _ H1 rfl (Vw.refl a.2)⟩
theorem ev_tupleOf {ta : TE} {G : PyData → Prop} (h : EvP W K ta σ H F) (k : ∀ e, F e → ∃ ds, e = .list ds ∧ G (.tuple ds)) : EvP W K (tCB (fun xs H Q => ∃ p ys, xs = [.ref p] ∧ ((SqL K H p ys ∧ ∀ l, H l = none → Q (.ref l) (upd H l (.tup ys))) ∨ (SqT K H p ys ∧ Q (.ref p) H))) (tCons ta tNil)) σ H G := fun H0 a0 Q q => h H0 a0 _ fun v H1 d f a1 dv => by
  obtain ⟨ds, rfl, g⟩ := k d f
  obtain ⟨p, xs, rfl, hs, hd⟩ := d_lst dv
  exact ⟨p, xs, rfl, .inl ⟨off_sub.seq hs, fun l hl => q _ _ _ g (rtrans a1 (Vw.newR a1.2 hl)) (Vw.newT a1.2 hl hd)⟩⟩
end
/-- the defs that the law calls -/
structure LawK (P : Program) (w : World) (K : PySem.W.Frag) (mg : Str → Option Value) (base : Heap) : Prop where
  st : ∃ f fd, Fun K "_law_state" "_law_state" (topS 17) f fd ∧ FnOk P w K mg base CX0 1 f fd ["_law_script"] (spState K) ∧ mg "_law_state" = some (.ref f) ∧ Binds K fd ["_law_script"] []
  dr : ∃ f fd, Fun K "_law_draw" "_law_draw" (topS 18) f fd ∧ FnOk P w K mg base CX0 1 f fd ["_law_state_here", "_law_many"] (spDraw K) ∧ mg "_law_draw" = some (.ref f) ∧ Binds K fd ["_law_state_here", "_law_many"] []
  po : ∃ f fd, Fun K "_law_policy" "_law_policy" (topS 20) f fd ∧ FnOk P w K mg base CX0 7 f fd ["_law_state_here", "_law_deep", "_law_fields"] (spLPol K 3) ∧ mg "_law_policy" = some (.ref f) ∧ Binds K fd ["_law_state_here", "_law_deep", "_law_fields"] []
  ot : ∃ f fd, Fun K "_law_other" "_law_other" (topS 25) f fd ∧ FnOk P w K mg base CX0 8 f fd ["_law_state_here", "_law_policy_here"] (spLOth K) ∧ mg "_law_other" = some (.ref f) ∧ Binds K fd ["_law_state_here", "_law_policy_here"] []
  sa : ∃ f fd, Fun K "_law_samples" "_law_samples" (topS 24) f fd ∧ FnOk P w K mg base CX0 12 f fd ["_law_policies"] (spLSam K 7) ∧ mg "_law_samples" = some (.ref f) ∧ Binds K fd ["_law_policies"] []
  nu : ∃ f fd, Fun K "_law_numbers" "_law_numbers" (topS 23) f fd ∧ FnOk P w K mg base CX0 12 f fd ["_law_part"] (spLNum K 11) ∧ mg "_law_numbers" = some (.ref f) ∧ Binds K fd ["_law_part"] []
  sts : ∃ f fd, Fun K "_law_states" "_law_states" (topS 26) f fd ∧ FnOk P w K mg base CX0 1 f fd ["_law_rows"] (spStates K) ∧ mg "_law_states" = some (.ref f) ∧ Binds K fd ["_law_rows"] []
  af : ∃ f fd, Fun K "_law_after" "_law_after" (topS 22) f fd ∧ FnOk P w K mg base CX0 12 f fd ["_law_policy_here", "_law_states_here"] (spLAft K 7) ∧ mg "_law_after" = some (.ref f) ∧ Binds K fd ["_law_policy_here", "_law_states_here"] []
  psa : ∃ f fd, Fun K "samples" "samples" (topS 12) f fd ∧ FnOk P w K mg base CX0 11 f fd ["policies"] (spSamples K 7) ∧ mg "samples" = some (.ref f) ∧ Binds K fd ["policies"] []
  pna : ∃ f fd, Fun K "named_numbers" "named_numbers" (topS 15) f fd ∧ FnOk P w K mg base CX0 12 f fd ["policies", "field"] (spNamed K 7) ∧ mg "named_numbers" = some (.ref f) ∧ Binds K fd ["policies", "field"] []
  pst : ∃ f fd, Fun K "all_states" "all_states" (topS 13) f fd ∧ FnOk P w K mg base CX0 1 f fd ["rows"] (spStates K) ∧ mg "all_states" = some (.ref f) ∧ Binds K fd ["rows"] []
  pdi : ∃ f fd, Fun K "difference" "difference" (topS 14) f fd ∧ FnOk P w K mg base CX0 21 f fd ["policy", "other"] (spDiff K 7) ∧ mg "difference" = some (.ref f) ∧ Binds K fd ["policy", "other"] []
  paf : ∃ f fd, Fun K "after" "after" (topS 8) f fd ∧ FnOk P w K mg base CX0 20 f fd ["policy", "state"] (spAfter K 7) ∧ mg "after" = some (.ref f) ∧ Binds K fd ["policy", "state"] []
  bi : ∀ x ∈ (["repr", "len", "range", "sorted", "set", "tuple"] : List Str), mg x = none
section
variable {P : Program} {w : World} {K : PySem.W.Frag} {mg : Str → Option Value}
theorem law_body {base : Heap} (LK : LawK P w K mg base) {fa p : Addr} {cdv : Value} {s : Shared} {H : Hp} {ns : List Int} (hs : SqL K H p (ns.map V.int)) (hl : ns.length ≤ 63) (hr : Room 30 (callerA.deeper (envOfC "law" (defScope (topS 27)) s.heap.objs.size fa cdv))) :
    ∃ t, PSs (cxOf CX0 P w K mg base lawN "law" (defScope (topS 27)) fa cdv callerA [] s H E0).nox (defBody (topS 27)) t ∧ t { nx := fun _ _ => False, rt := fun v _ => v = .bl true } (start lawN [.ref p]) H := by
  obtain ⟨fSt, dSt, FSt, GSt, gSt, bSt⟩ := LK.st
  obtain ⟨fD, dD, FD, GD, gD, bD⟩ := LK.dr
  obtain ⟨fP, dP, FP, GP, gP, bP⟩ := LK.po
  obtain ⟨fO, dO, FO, GO, gO, bO⟩ := LK.ot
  obtain ⟨fS, dS, FS, GS, gS, bS⟩ := LK.sa
  obtain ⟨fN, dN, FN, GN, gN, bN⟩ := LK.nu
  obtain ⟨fT, dT, FT, GT, gT, bT⟩ := LK.sts
  obtain ⟨fA, dA, FA, GA, gA, bA⟩ := LK.af
  obtain ⟨fs, ds, Fs, Gs, gs, bs⟩ := LK.psa
  obtain ⟨fn, dn, Fn, Gn, gn, bn⟩ := LK.pna
  obtain ⟨ft, dt, Ft, Gt, gt, bt⟩ := LK.pst
  obtain ⟨fd, dd, Fd, Gd, gd, bd⟩ := LK.pdi
  obtain ⟨fa', da, Fa, Ga, ga, ba⟩ := LK.paf
  have mRepr := LK.bi "repr" (by simp)
  have mLen := LK.bi "len" (by simp)
  have mRange := LK.bi "range" (by simp)
  have mSorted := LK.bi "sorted" (by simp)
  have mSet := LK.bi "set" (by simp)
  have mTuple := LK.bi "tuple" (by simp)
  refine ⟨_, pss_cons (ps_set (i := 1) scLaw.nd rfl (.inr rfl) (pe_call GSt (hr.mono (by omega)) rfl gSt FSt.kp bSt .nil pass0 (pa_cons (pv 0) pa_nil)))
    (pss_cons (ps_set (i := 2) scLaw.nd rfl (.inr rfl) (pe_call GP (hr.mono (by omega)) rfl gP FP.kp bP .nil pass0 (pa_cons (pv 1) (pa_cons pe_int (pa_cons (pe_lst (pa_cons pe_str (pa_cons pe_str (pa_cons pe_str (pa_cons pe_str (pa_cons pe_str pa_nil)))))) pa_nil)))))
    (pss_cons (ps_set (i := 3) scLaw.nd rfl (.inr rfl) (pe_call GO (hr.mono (by omega)) rfl gO FO.kp bO .nil pass0 (pa_cons (pv 1) (pa_cons (pv 2) pa_nil))))
    (pss_cons (ps_if (pt_cmpR op_eq (pe_call GD (hr.mono (by omega)) rfl gD FD.kp bD .nil pass0 (pa_cons (pv 1) (pa_cons pe_int pa_nil))) pe_int (nomark _))
      (pss_one (ps_asg (pe_tup (pa_cons (pe_tup (pa_cons pe_str (pa_cons (pv 2) pa_nil))) (pa_cons (pe_tup (pa_cons pe_str (pa_cons (pe_tup (pa_cons pe_str (pa_cons (pe_lst (pa_cons (pv 3) (pa_cons (pv 2) pa_nil))) pa_nil))) pa_nil))) pa_nil)))
        (pg_tup rfl (pgs_cons (pg_name (i := 2) scLaw.nd rfl (.inr rfl)) (pgs_cons (pg_name (i := 3) scLaw.nd rfl (.inr rfl)) pgs_nil))))) pss_nil)
    (pss_cons (ps_set (i := 4) scLaw.nd rfl (.inl rfl) (pe_callB (cr_repr rfl (Nat.lt_of_succ_lt (hu65 hr))) rfl mRepr (by decide +kernel) (pa_cons (pe_lst (pa_cons (pv 2) (pa_cons (pv 3) pa_nil))) pa_nil)))
    (pss_cons (ps_set (i := 5) scLaw.nd rfl (.inl rfl) (pe_call GS (hr.mono (by omega)) rfl gS FS.kp bS .nil pass0 (pa_cons (pe_lst (pa_cons (pv 2) (pa_cons (pv 3) pa_nil))) pa_nil)))
    (pss_cons (ps_if (pt_cmpR (op_neD (Nat.lt_of_succ_lt (hu65 hr))) (pe_call Gs (hr.mono (by omega)) rfl gs Fs.kp bs .nil pass0 (pa_cons (pe_lst (pa_cons (pv 2) (pa_cons (pv 3) pa_nil))) pa_nil)) (pv 5) (nomark _)) (pss_one (ps_ret pe_bl)) pss_nil)
    (pss_cons (ps_setLc (i := 6) (own := [("_law_name", 14), ("_law_number", 13)]) (g := gTup K 2 (gCons (gName 14) (gCons (gName 13) gNil))) rfl scLaw.nd rfl rfl (sw_true rfl rfl rfl (by decide +kernel)) (pi_list (pe_call GN (hr.mono (by omega)) rfl gN FN.kp bN .nil pass0 (pa_cons (pe_tup (pa_cons pe_str (pa_cons (pe_lst (pa_cons (pv 2) (pa_cons (pv 3) pa_nil))) pa_nil))) pa_nil)))
      (blkOk_by (N := lawN) (sc := defScope (topS 27)) (by decide +kernel)) (fun _ _ _ _ _ => (pg_tup rfl (pgs_cons (pg_name (i := 14) scLaw.nd rfl (Or.inl rfl)) (pgs_cons (pg_name (i := 13) scLaw.nd rfl (Or.inl rfl)) pgs_nil)) : PG _ _ (gTup K 2 (gCons (gName 14) (gCons (gName 13) gNil)))))
      (fun _ _ _ _ _ => pts_one (pt_cmpR op_eq (pv 14) pe_str (nomark _))) (fun _ _ _ _ _ => pv 13))
    (pss_cons (ps_if (pt_cmpR (op_neD (Nat.lt_of_succ_lt (hu65 hr))) (pe_call Gn (hr.mono (by omega)) rfl gn Fn.kp bn .nil pass0 (pa_cons (pe_lst (pa_cons (pv 2) (pa_cons (pv 3) pa_nil))) (pa_cons pe_str pa_nil))) (pe_callB (cr_sortedSet rfl) rfl mSorted (by decide +kernel) (pa_cons (pe_callTy (cr_setI rfl) rfl mSet (by decide +kernel) (pa_cons (pv 6) pa_nil)) pa_nil)) (nomark _)) (pss_one (ps_ret pe_bl)) pss_nil)
    (pss_cons (ps_set (i := 7) scLaw.nd rfl (.inl rfl) (pe_call GT (hr.mono (by omega)) rfl gT FT.kp bT .nil pass0 (pa_cons (pv 5) pa_nil)))
    (pss_cons (ps_if (pt_cmpR op_gt (pe_callB call_len_seq rfl mLen PySem.boot_len (pa_cons (pv 7) pa_nil)) pe_int (nomark _)) (pss_one (ps_ret pe_bl)) pss_nil)
    (pss_cons (ps_if (pt_cmpR (op_neD (Nat.lt_of_succ_lt (hu65 hr))) (pe_call Gt (hr.mono (by omega)) rfl gt Ft.kp bt .nil pass0 (pa_cons (pv 5) pa_nil)) (pv 7) (nomark _)) (pss_one (ps_ret pe_bl)) pss_nil)
    (pss_cons (ps_setLc (i := 8) (own := [("_law_one", 15)]) (g := gName 15) rfl scLaw.nd rfl rfl (sw_true rfl rfl rfl (by decide +kernel)) (pi_list (pv 7)) (blkOk_by (N := lawN) (sc := defScope (topS 27)) (by decide +kernel)) (fun _ _ _ _ _ => pg_name (i := 15) scLaw.nd rfl (Or.inl rfl))
      (fun _ _ _ _ _ => pts_one (pt_cmpR (op_neK K (Nat.lt_of_succ_lt (hu65 hr))) (pe_call GA (hr.mono (by omega)) rfl gA FA.kp bA .nil pass0 (pa_cons (pv 2) (pa_cons (pe_lst (pa_cons (pv 15) pa_nil)) pa_nil))) (pe_call GA (hr.mono (by omega)) rfl gA FA.kp bA .nil pass0 (pa_cons (pv 3) (pa_cons (pe_lst (pa_cons (pv 15) pa_nil)) pa_nil))) (nomark _))) (fun _ _ _ _ _ => pv 15))
    (pss_cons (ps_set (i := 9) scLaw.nd rfl (.inl rfl) (pe_call Gd (hr.mono (by omega)) rfl gd Fd.kp bd .nil pass0 (pa_cons (pv 2) (pa_cons (pv 3) pa_nil))))
    (pss_cons (ps_if (PW.pt (pw_or (pt_cmpR (op_neD (Nat.lt_of_succ_lt (hu65 hr))) (pv 9) (pe_ifExp (pt_cmpR op_gt (pe_callB call_len_seq rfl mLen PySem.boot_len (pa_cons (pv 8) pa_nil)) pe_int (nomark _)) (pe_ix ix_list (pv 8) pe_int (fun _ _ => rfl)) pe_non) (nomark _))
        (pw_or1 (pt_cmpR op_ne (pe_callB (cr_repr rfl (Nat.lt_of_succ_lt (hu65 hr))) rfl mRepr (by decide +kernel) (pa_cons (pe_lst (pa_cons (pv 2) (pa_cons (pv 3) pa_nil))) pa_nil)) (pv 4) (nomark _))))) (pss_one (ps_ret pe_bl)) pss_nil)
    (pss_cons (ps_for PassesOwn.never rfl (pi_range1 rfl mRange (pa_cons pe_int pa_nil)) (pg_name (i := 10) scLaw.nd rfl (.inl rfl))
      (pss_cons (ps_set (i := 11) scLaw.nd rfl (.inl rfl) (pe_op op_catA (pe_tup (pa_cons (pe_op op_add pe_int (pe_call GD (hr.mono (by omega)) rfl gD FD.kp bD .nil pass0 (pa_cons (pv 1) (pa_cons pe_int pa_nil)))) (pa_cons (pe_call GD (hr.mono (by omega)) rfl gD FD.kp bD .nil pass0 (pa_cons (pv 1) (pa_cons pe_int pa_nil))) pa_nil)))
        (pe_callTy call_tuple_of rfl mTuple (by decide +kernel) (pa_cons (pe_lc (own := [("_law_k", 16)]) (g := gName 16) (tt := tYes) rfl scLaw.nd (pi_range1 rfl mRange (pa_cons pe_int pa_nil)) (blkOk_by (N := lawN) (sc := defScope (topS 27)) (by decide +kernel)) (fun _ _ _ _ _ => pg_name (i := 16) scLaw.nd rfl (Or.inl rfl)) (fun _ _ _ _ _ => pts_nil)
          (fun _ _ _ _ _ => pe_call GD (hr.mono (by omega)) rfl gD FD.kp bD .nil pass0 (pa_cons (pv 1) (pa_cons pe_int pa_nil)))) pa_nil))))
      (pss_cons (ps_set (i := 12) scLaw.nd rfl (.inl rfl) (pe_cmpR (op_eqD (Nat.lt_of_succ_lt (hu65 hr))) (pe_callB (cr_sortS (hu65 hr)) rfl mSorted (by decide +kernel) (pa_cons (pe_call Ga (hr.mono (by omega)) rfl ga Fa.kp ba .nil pass0 (pa_cons (pv 2) (pa_cons (pv 11) pa_nil))) pa_nil))
        (pe_callB (cr_sortS (hu65 hr)) rfl mSorted (by decide +kernel) (pa_cons (pe_call Ga (hr.mono (by omega)) rfl ga Fa.kp ba .nil pass0 (pa_cons (pv 3) (pa_cons (pv 11) pa_nil))) pa_nil)) (nomark _)))
      (pss_one (ps_if (PW.pt (pw_and (pt_cmp (pc_isN (pv 9)) (nomark _)) (pw_and1 (pt_not (pt_val (pv 12)))))) (pss_one (ps_ret pe_bl)) pss_nil)))))
    (pss_one (ps_ret pe_bl))))))))))))))))), ?_⟩
  have hlen : ns.length ≤ 100000 := by omega
  refine sq_raw ⟨.ref p, rfl, p, ns, rfl, hs, hlen, fun a c H1 _ _ _ ls => ?_⟩
  obtain ⟨W, L, ok1⟩ : ∃ W : Vw, Lawful W a c ∧ W.ok H1 := ⟨Vw.law H1 (two a c) a c (fun _ h => h) (fun b h => ls.there h), Lawful.law, ⟨Same.refl _, ls⟩⟩
  clear hs
  -- policy, other
  refine sq_asg (W := W) (K := K) (F := DrawnP 2) (ev_callL L rfl 2 (ea_c ev_int (ea_c (ev_lstD (ds := drawnD) (ea_c ev_str (ea_c ev_str (ea_c ev_str (ea_c ev_str (ea_c ev_str ea_nil))))) (by show 5 ≤ 1000; decide)) ea_nil)) (by decide)) ok1 fun vp0 d H2 f2 r2 dp0 => ?_
  obtain ⟨p1, rfl, op1, lp1⟩ := f2
  refine sq_asg (W := W) (K := K) (F := OtherP) (ev_callL L rfl p1 (ea_c (ev_var rfl dp0) ea_nil) ⟨op1, lp1⟩) r2.2 fun vq0 d H3 f3 r3 dq0 => ?_
  obtain ⟨q1, rfl, oq1, lq1⟩ := f3
  have dp0 := dmono r3 dp0
  refine sq_ifR (W := W) (B := fun _ => True) (R := fun σ' H' => ∃ (pa qa : Pol) (vp vq : V), σ' = [some (.ref p), some (.ref a), some vp, some vq, none, none, none, none, none, none, none, none, none, none, none, none, none] ∧ W.ok H' ∧ W.D K H' vp (encP pa) ∧ W.D K H' vq (encP qa) ∧ OkP 6 pa ∧ OkP 6 qa ∧ (nums pa).length ≤ 100 ∧ (nums qa).length ≤ 100)
    ?rest (et_test (ev_eqI (G := fun e => ∃ b, e = .bool b) (ev_draw (n := 6) L rfl ev_int (by decide)) (F2 := fun e => e = .int 0) ev_int fun e1 e2 ⟨r, _, a1⟩ a2 => ⟨_, _, a1, a2, _, rfl⟩) fun e ⟨b, e'⟩ => ⟨b, e', trivial⟩) r3.2 (fun _ H4 r4 D' hD => ?_) fun _ H4 r4 => ?_
  rotate_left
  · -- both starred
    refine st_asgG (W := W) (K := K) (F := fun d => d = .tuple [encP (.star p1), encP (.star (.sum [q1, p1]))]) (ev_tupD (ea_c (ev_is (ev_tagD1 (ev_var rfl (dmono r4 dp0))) (by rw [encP])) (ea_c (ev_is (ev_tagD1 (ev_tagD1 (ev_two (ev_var rfl (dmono r4 dq0)) (ev_var rfl (dmono r4 dp0))))) (by simp [encP, encPs])) ea_nil)) (by simp)) r4.2 fun v d H5 e r5 dv => ?_
    subst e
    refine g_two dv fun v1 v2 d1 d2 => hD _ _ ⟨.star p1, .star (.sum [q1, p1]), v1, v2, rfl, r5.2, d1, d2, (OkP.star op1).mono (by decide), .star (.sum (d := 4) (by simp) fun x hx => ?_), by rw [nums]; have : (nums p1).length ≤ 27 := lp1; omega, by simp [nums, numsL]; have : (nums p1).length ≤ 27 := lp1; omega⟩
    have : x = q1 ∨ x = p1 := by simpa using hx
    rcases this with rfl | rfl
    · exact oq1
    · exact op1.mono (by decide)
  · exact ⟨p1, q1, vp0, vq0, rfl, r4.2, dmono r4 dp0, dmono r4 dq0, op1.mono (by decide), oq1.mono (by decide), Nat.le_trans lp1 (by decide), Nat.le_trans lq1 (by decide)⟩
  rintro σ' H4 ⟨P1, Q1, vp, vq, rfl, ok4, dP, dQ, oP, oQ, lP, lQ⟩
  clear dp0 dq0 r2 r3 ok1 lp1 lq1 op1 oq1
  have fl : [P1, Q1].flatMap nums = nums P1 ++ nums Q1 := by simp
  have oP' : OkP' 7 P1 := ⟨6, by decide, oP⟩
  have oQ' : OkP' 7 Q1 := ⟨6, by decide, oQ⟩
  have okp : ∀ z ∈ [P1, Q1], OkP' 7 z := fun z hz => by
    have : z = P1 ∨ z = Q1 := by simpa using hz
    rcases this with rfl | rfl
    · exact oP'
    · exact oQ'
  have okl : ∀ z ∈ [P1, Q1], OkP' 7 z ∧ (nums z).length ≤ 100000 := fun z hz => ⟨okp z hz, by
    have : z = P1 ∨ z = Q1 := by simpa using hz
    rcases this with rfl | rfl <;> omega⟩
  have ons : OkNs (nums P1 ++ nums Q1) := by rw [← fl]; exact okNs_of okp
  have two : ∀ {σ : L2.St} {H' : Hp}, σ[2]? = some (some vp) → σ[3]? = some (some vq) → W.R H4 H' → EvD W K (tLst (tCons (tVar 2) (tCons (tVar 3) tNil))) σ H' (.list ([P1, Q1].map encP)) := fun h2 h3 r => ev_two (ev_var h2 (dmono r dP)) (ev_var h3 (dmono r dQ))
  -- kept
  refine sq_asg (W := W) (K := K) (ev_repr (two rfl rfl (Vw.refl ok4)) (nice_two oP oQ) ⟨_, rfl⟩) ok4 fun v5 d H5 e r5 d5 => ?_
  subst e
  obtain rfl := d_str d5
  -- rows
  refine sq_asg (W := W) (K := K) (F := fun d => ∃ rows, d = .list (rows.map encR) ∧ IsRows (nums P1 ++ nums Q1) rows) (ev_imp (ev_call (x := [P1, Q1]) (args := fun ps : List Pol => [.list (ps.map encP)]) (ea_c (two rfl rfl r5) ea_nil) ⟨⟨okp, by rw [fl, List.length_append]; omega⟩, by simp⟩) fun d ⟨rows, e, h⟩ => ⟨rows, e, by rw [← fl]; exact h⟩) r5.2 fun v6 d H6 f6 r6 d6 => ?_
  obtain ⟨rows, rfl, hrows⟩ := f6
  have r46 := rtrans r5 r6
  -- samples
  refine sq_pass (W := W) (et_testD (ev_neD (G := fun d => d = .bool false) (F1 := fun d => d = .list (rows.map encR)) (F2 := fun d => d = .list (rows.map encR)) (ev_imp (ev_call (x := [P1, Q1]) (args := fun ps : List Pol => [.list (ps.map encP)]) (ea_c (two rfl rfl r46) ea_nil) ⟨okl, by simp⟩) fun d ⟨rows', e, h⟩ => ?_) (ev_var rfl d6) fun e1 e2 a1 a2 => ?_)) r46.2 fun H7 r7 => ?_
  · rw [fl] at h
    rw [e, isRows_eq h hrows]
  · subst a1; subst a2
    exact ⟨shaped_R rows, shaped_R rows, ne_same (lay_R rows)⟩
  have r47 := rtrans r46 r7
  -- named
  have nsum : nums (.sum [P1, Q1]) = nums P1 ++ nums Q1 := by simp [nums, numsL]
  refine sq_asg (W := W) (K := K) (F := fun d => d = .list ((numsF 3 (nums P1 ++ nums Q1)).map .int)) (ev_lc_src (F := fun d => d = .list ((nums P1 ++ nums Q1).map encN)) (ev_is (ev_lnum (.inr (.sum [P1, Q1])) (ev_is (ev_tagD1 (two rfl rfl r47)) (by show _ = encP (.sum [P1, Q1]); simp [encP, encPs])) ⟨8, by decide, 7, by decide, .sum (by simp) fun x hx => by
      have : x = P1 ∨ x = Q1 := by simpa using hx
      rcases this with rfl | rfl
      · exact oP
      · exact oQ⟩ (by show (nums (.sum [P1, Q1])).length ≤ 100000; rw [nsum, List.length_append]; omega)) (by show PyData.list ((nums (.sum [P1, Q1])).map encN) = _; rw [nsum])) fun v d H8 e r8 dv => ?_) r47.2 fun v7 d H8 e r8 d7 => ?_
  · subst e
    refine ev_lcN (f := 3) (ev_c dv) (fun _ _ => rfl) (fun qn hq Dl acc H9 ic => ?_) (fun _ _ => rfl) (by rw [List.length_append]; omega)
    refine et_testD (ev_is (ev_eqS (K := K) (x := fname qn.1) (y := "dst") (ev_var rfl (.str _)) ev_str) ?_)
    rw [show ("dst" : Str) = fname 3 from rfl, fname_ne (ons qn hq).1 (by decide)]
  subst e
  have r48 := rtrans r47 r8
  -- named_numbers
  have small : ∀ x ∈ numsF 3 (nums P1 ++ nums Q1), 0 ≤ x ∧ x ≤ 15 := fun x hx => (ons _ (numsF_mem.mp hx)).2
  refine sq_pass (W := W) (et_testD (ev_neD (G := fun d => d = .bool false) (F1 := fun d => ∃ row : List Int, d = .list (row.map .int) ∧ row.Pairwise (· < ·) ∧ ∀ k, k ∈ row ↔ (3, k) ∈ nums P1 ++ nums Q1) (F2 := fun d => ∃ row : List Int, d = .list (row.map .int) ∧ row.Pairwise (· < ·) ∧ ∀ k, k ∈ row ↔ (3, k) ∈ nums P1 ++ nums Q1)
    (ev_imp (ev_call (x := ([P1, Q1], 3)) (args := fun x : List Pol × Nat => [.list (x.1.map encP), .str (fname x.2)]) (ea_c (two rfl rfl r48) (ea_c (ev_is ev_str rfl) ea_nil)) ⟨⟨okl, by simp⟩, (by show 3 < 5; decide)⟩) fun d ⟨row, e, h1, h2⟩ => ⟨row, e, h1, fun k => by rw [h2, fl]⟩)
    (ev_sortedSetI (F := fun d => d = .list ((numsF 3 (nums P1 ++ nums Q1)).map .int)) (ev_var rfl d7) fun d e => ⟨_, e, Nat.le_trans (numsF_len _ _) (by rw [List.length_append]; omega), small, fun M pw mm => ⟨M, rfl, pw, fun k => by rw [mm, numsF_mem]⟩⟩) ?_)) r48.2 fun H9 r9 => ?_
  · rintro e1 e2 ⟨row, rfl, h1, h2⟩ ⟨row', rfl, h1', h2'⟩
    have e : row = row' := lt_eq h1 h1' fun k => by rw [h2, h2']
    subst e
    have s := shaped_of (d := .list (row.map .int)) (by rw [PyData.canLay0]; exact lay_ints _) (by rw [PyData.depth, dep_ints]; decide)
    exact ⟨s, s, ne_same (by rw [PyData.canLay0]; exact lay_ints _)⟩
  have r49 := rtrans r48 r9
  have r69 := rtrans r7 (rtrans r8 r9)
  -- states
  have sm := rows_sm ons hrows
  refine sq_asg (W := W) (K := K) (F := fun d => d = .list ((prodP rows).map encS)) (ev_call (x := rows) (args := fun rows : List (List Int) => [.list (rows.map encR)]) (ea_c (ev_var rfl (dmono r69 d6)) ea_nil) sm) r49.2 fun v8 d H10 e r10 d8 => ?_
  subst e
  have r410 := rtrans r49 r10
  -- too many
  refine sq_if (W := W) (B := fun b => b = decide (400 < (prodP rows).length)) (et_test (ev_I0 (K := K) (gd := fun i j => .bool (decide (j < i))) (fun i j H => .bl _) (G := fun d => d = .bool (decide (400 < (prodP rows).length))) (F1 := fun d => d = .int ((prodP rows).length : Nat)) (F2 := fun d => d = .int 400) (ev_len (F := fun d => d = .list ((prodP rows).map encS)) (ev_var rfl d8) fun e h => ⟨_, .inl h, by rw [List.length_map]⟩) ev_int fun e1 e2 a1 a2 => ⟨_, _, a1, a2, ?_⟩) fun d e => ⟨_, e, rfl⟩) r10.2 (fun _ H11 r11 => ?_) fun hb H11 r11 => ?_
  · by_cases z : 400 < (prodP rows).length
    · rw [decide_eq_true z, decide_eq_true (by omega)]
    · rw [decide_eq_false z, decide_eq_false (by omega)]
  · exact st_ret (W := W) (K := K) ev_bl r11.2 fun v d H12 e r12 dv => by subst e; exact d_bl dv
  have few : (prodP rows).length ≤ 400 := by
    have := of_decide_eq_false hb.symm
    omega
  have ar : Arena rows := ⟨hrows.1, few⟩
  have inN : ∀ q ∈ nums P1 ++ nums Q1, ∀ r, rows[q.1]? = some r → q.2 ∈ r := fun q hq r hr => ((hrows.2 q.1 r hr).2 q.2).mpr (.inl hq)
  have r411 := rtrans r410 r11
  have d8 := dmono r11 d8
  -- all_states
  refine sq_pass (W := W) (et_testD (ev_neD (G := fun d => d = .bool false) (F1 := fun d => d = .list ((prodP rows).map encS)) (F2 := fun d => d = .list ((prodP rows).map encS)) (ev_imp (ev_call (x := rows) (args := fun rows : List (List Int) => [.list (rows.map encR)]) (ea_c (ev_var rfl (dmono (rtrans r69 (rtrans r10 r11)) d6)) ea_nil) sm) fun d e => e) (ev_var rfl d8) fun e1 e2 a1 a2 => ?_)) r411.2 fun H12 r12 => ?_
  · subst a1; subst a2
    exact ⟨shaped_LS _, shaped_LS _, ne_same (by rw [PyData.canLay0]; exact lay_Ss _)⟩
  have r412 := rtrans r411 r12
  have d8 := dmono r12 d8
  have inR : ∀ s ∈ prodP rows, InRows rows s := fun s hs => (prodP_elem _ rows rfl s).mp hs
  -- differing
  have one : ∀ {W' : Vw} {σ : L2.St} {H' : Hp} {z : V} {s : Sta} {te : TE} {pol : Pol}, EvD W' K te σ H' (encP pol) → σ[15]? = some (some z) → W'.D K H' z (encS s) → OkP' 7 pol → (∀ q ∈ nums pol, q ∈ nums P1 ++ nums Q1) → InRows rows s → EvP W' K (tCall (spLAft K 7) [] E0 (tCons te (tCons (tLst (tCons (tVar 15) tNil)) tNil))) σ H' (SortedAfter (Den pol s)) := fun h hz dz o hq hs =>
    ev_imp (ev_call (x := (_, [_], rows)) (args := fun x : Pol × List Sta × List (List Int) => [encP x.1, .list (x.2.1.map encS)]) (ea_c h (ea_c (ev_lstD (ea_c (ev_var hz dz) ea_nil) (by simp)) ea_nil)) ⟨o, ar, fun q hq' => inN q (hq q hq'), fun t ht => by rw [show t = _ by simpa using ht]; exact hs, by simp⟩) fun d ⟨A, e, nA, mA⟩ => ⟨A, e, nA, fun t => by rw [mA]; simp⟩
  refine sq_asg (W := W) (K := K) (F := fun d => d = .list (((prodP rows).filter (differ P1 Q1)).map encS)) ?_ r412.2 fun v9 d H13 e r13 d9 => ?_
  · refine ev_imp (ev_lc (ds := (prodP rows).map encS) (ev_var rfl d8) (fun _ => rfl) (fun i out => out = (((prodP rows).take i).filter (differ P1 Q1)).map encS) rfl (fun i out e => ?_) (fun i out d pi hd Dl acc H13 z ic dz => ?_)) ?_
    · have h1 := List.length_filter_le (differ P1 Q1) ((prodP rows).take i)
      rw [List.length_take] at h1
      rw [e, List.length_map, sizeLine_eq]; omega
    · rw [List.getElem?_map] at hd
      cases hsi : (prodP rows)[i]? with
      | none => rw [hsi] at hd; cases hd
      | some si =>
      rw [hsi] at hd
      cases hd
      have hin := inR si (List.mem_of_getElem? hsi)
      refine ⟨fun b => b = differ P1 Q1 si, et_test (ev_neD (G := fun d => d = .bool (differ P1 Q1 si)) (one (ev_var rfl (dp_same ic.sm (dmono r412 dP))) rfl dz oP' (fun q hq => List.mem_append_left _ hq) hin) (one (ev_var rfl (dp_same ic.sm (dmono r412 dQ))) rfl dz oQ' (fun q hq => List.mem_append_right _ hq) hin) ?_) fun d e => ⟨_, e, rfl⟩, fun hb => ⟨fun e => e = encS si, ev_var rfl dz, fun e he => ?_⟩, fun hb => ?_⟩
      · rintro e1 e2 ⟨A1, rfl, n1, m1⟩ ⟨A2, rfl, n2, m2⟩
        refine ⟨shaped_LS _, shaped_LS _, ?_⟩
        rw [eqv_LS, sorted_cmp n1 m1 n2 m2, Bool.not_not]
      · rw [pi, he, List.take_add_one, hsi, List.filter_append, List.map_append]
        show _ = _ ++ (List.filter (differ P1 Q1) [si]).map encS
        rw [List.filter_cons, if_pos hb.symm]; rfl
      · rw [pi, List.take_add_one, hsi, List.filter_append, List.map_append]
        show _ = _ ++ (List.filter (differ P1 Q1) [si]).map encS
        rw [List.filter_cons, if_neg (by rw [← hb]; exact Bool.false_ne_true)]
        show _ = _ ++ []
        rw [List.append_nil]
    · rintro d ⟨out, rfl, rfl⟩
      rw [List.length_map, List.take_length]
  subst e
  have r413 := rtrans r412 r13
  -- told
  refine sq_asg (W := W) (K := K) (F := fun d => d = tellD ((prodP rows).find? (differ P1 Q1))) (ev_imp (ev_call (x := (P1, Q1)) (args := fun x : Pol × Pol => [encP x.1, encP x.2]) (ea_c (ev_var rfl (dmono r413 dP)) (ea_c (ev_var rfl (dmono r413 dQ)) ea_nil)) ⟨⟨oP', Nat.le_trans lP (by decide)⟩, oQ', Nat.le_trans lQ (by decide)⟩) fun d ⟨rows', h, e⟩ => by rw [e, isRows_eq h hrows]) r13.2 fun v10 d H14 e r14 d10 => ?_
  subst e
  have r414 := rtrans r413 r14
  have hf : ((prodP rows).filter (differ P1 Q1)).head? = (prodP rows).find? (differ P1 Q1) := List.head?_filter
  -- what difference told
  refine sq_pass (W := W) (et_imp (et_or (B := fun b => b = false) (C := fun b => b = false) (et_testD (ev_neD (G := fun d => d = .bool false) (F1 := fun d => d = tellD ((prodP rows).find? (differ P1 Q1))) (F2 := fun d => d = tellD ((prodP rows).find? (differ P1 Q1))) (ev_var rfl d10) ?_ fun e1 e2 a1 a2 => ?_))
    fun _ => et_testD (ev_is (ev_neS (two rfl rfl r414 |> fun h => ev_repr h (nice_two oP oQ) ⟨_, rfl⟩) (ev_var rfl (.str _))) ?_)) ?_) r414.2 fun H15 r15 => ?_
  · -- the first that differs
    refine ev_if (B := fun b => b = decide (0 < ((prodP rows).filter (differ P1 Q1)).length)) (et_test (ev_I0 (K := K) (gd := fun i j => .bool (decide (j < i))) (fun i j H => .bl _) (G := fun d => d = .bool (decide (0 < ((prodP rows).filter (differ P1 Q1)).length))) (F1 := fun d => d = .int (((prodP rows).filter (differ P1 Q1)).length : Nat)) (F2 := fun d => d = .int 0) (ev_len (F := fun d => d = .list (((prodP rows).filter (differ P1 Q1)).map encS)) (ev_var rfl (dmono r14 d9)) fun e h => ⟨_, .inl h, by rw [List.length_map]⟩) ev_int fun e1 e2 a1 a2 => ⟨_, _, a1, a2, ?_⟩) fun d e => ⟨_, e, rfl⟩) (fun hb => ?_) fun hb => ?_
    · by_cases z : 0 < ((prodP rows).filter (differ P1 Q1)).length
      · rw [decide_eq_true z, decide_eq_true (by omega)]
      · rw [decide_eq_false z, decide_eq_false (by omega)]
    · have pos := of_decide_eq_true hb.symm
      obtain ⟨s0, hs0⟩ : ∃ s0, ((prodP rows).filter (differ P1 Q1))[0]? = some s0 := ⟨_, List.getElem?_eq_getElem pos⟩
      have e0 : (prodP rows).find? (differ P1 Q1) = some s0 := by rw [← hf, List.head?_eq_getElem?]; exact hs0
      rw [e0]
      exact ev_ixL (ds := ((prodP rows).filter (differ P1 Q1)).map encS) (i := 0) (ev_var rfl (dmono r14 d9)) ev_int (atI_nat (j := 0) (by rw [List.getElem?_map, hs0]; rfl))
    · have nz := of_decide_eq_false hb.symm
      have e0 : (prodP rows).find? (differ P1 Q1) = none := by
        rw [← hf, List.head?_eq_getElem?]
        exact List.getElem?_eq_none (by omega)
      rw [e0]
      exact ev_non
  · subst a1; subst a2
    exact ⟨shaped_tell _, shaped_tell _, ne_same (lay_tell _)⟩
  · simp
  · rintro b (⟨_, h⟩ | ⟨_, h⟩)
    · cases h
    · exact h
  have r415 := rtrans r414 r15
  have told : ∀ {H' : Hp}, W.R H15 H' → decide (v10 = .non) = true → (prodP rows).find? (differ P1 Q1) = none := fun {H'} r hd => by
    cases ho : (prodP rows).find? (differ P1 Q1) with
    | none => rfl
    | some s0 =>
      rw [ho] at d10
      obtain ⟨a0, xs0, rfl, _⟩ := d_tup d10
      exact absurd (of_decide_eq_true hd) (by simp)
  -- six places
  refine ⟨6, rfl, by decide, by decide, ?_⟩
  refine for_range (lo := 0) (n := (6 : Int).toNat) (fun i σ' H' => ∃ y10 y11 y12, σ' = [some (.ref p), some (.ref a), some vp, some vq, some (.str (PyData.shown (.list ([P1, Q1].map encP)))), some v6, some v7, some v8, some v9, some v10, y10, y11, y12, none, none, none, none] ∧ W.R H15 H') ⟨none, none, none, rfl, Vw.refl r15.2⟩ ?_ ?_
  · rintro i σ' H' hi ⟨y10, y11, y12, rfl, r16⟩
    -- a place
    refine sq_asg (W := W) (K := K) (F := fun d => ∃ s : Sta, d = encS s ∧ s.length = 5 ∧ ∀ (f : Nat) (x : Int), s[f]? = some x → (loF f : Int) ≤ x ∧ x ≤ (hiF f : Int)) ?_ r16.2 fun v11 d H17 f17 r17 d11 => ?_
    · refine ev_catA (F1 := fun d => ∃ m1 m2 : Nat, m1 < 8 ∧ m2 < 7 ∧ d = .tuple [.int (1 + (m1 : Int)), .int m2]) (F2 := fun d => ∃ ks : List Nat, d = .tuple (ks.map fun k : Nat => PyData.int (k : Int)) ∧ ks.length = 3 ∧ ∀ k ∈ ks, k < 16) ?_ ?_ ?_
      · refine ev_imp (ev_tup (ea_cons (F := fun d => ∃ m1 : Nat, m1 < 8 ∧ d = .int (1 + (m1 : Int))) (ev_addI (F1 := fun d => d = .int 1) ev_int (ev_draw (n := 8) L rfl ev_int (by decide)) ?_) (ea_one (ev_draw (n := 7) L rfl ev_int (by decide)))) ?_) ?_
        · rintro e1 e2 rfl ⟨r, hr, rfl⟩
          exact ⟨_, _, rfl, rfl, r, hr, rfl⟩
        · rintro ds ⟨d, r, rfl, _, d2, rfl, _⟩
          simp
        · rintro d ⟨ds, rfl, d1, r, rfl, ⟨m1, h1, rfl⟩, d2, rfl, m2, h2, rfl⟩
          exact ⟨m1, m2, h1, h2, rfl⟩
      · refine ev_tupleOf (F := fun d => ∃ ks : List Nat, d = .list (ks.map fun k : Nat => PyData.int (k : Int)) ∧ ks.length = 3 ∧ ∀ k ∈ ks, k < 16) ?_ fun e ⟨ks, h, h3, h16⟩ => ⟨_, h, ks, rfl, h3, h16⟩
        refine ev_imp (ev_lcR (FL := fun ds => ds = [.int (3 : Nat)]) (ea_c (ev_is ev_int rfl) ea_nil) (fun ds e => ⟨3, e, by decide⟩) (fun _ => rfl) (fun j out => j ≤ 1000 ∧ ∃ ks : List Nat, out = ks.map (fun k : Nat => PyData.int (k : Int)) ∧ ks.length = j ∧ ∀ k ∈ ks, k < 16) ⟨by decide, [], rfl, rfl, fun _ h => by cases h⟩ (fun j out ⟨hj, ks, e, hl, _⟩ => by rw [e, List.length_map]; exact small1000 (by omega)) (fun j out pj hj Dl acc H18 x ic dx => ?_)) ?_
        · obtain ⟨_, ks, rfl, hl, hk⟩ := pj
          obtain ⟨H1', ok1', n1'⟩ := ic.nw
          refine ⟨fun b => b = true, et_yes, fun _ => ⟨_, ev_draw (n := 16) (L.plus ok1' n1') rfl ev_int (by decide), fun e ⟨k, hk1, he⟩ => ⟨by omega, ks ++ [k], by rw [List.map_append, he]; rfl, by rw [List.length_append, hl]; rfl, fun k' h' => ?_⟩⟩, fun e => by cases e⟩
          rcases List.mem_append.mp h' with h' | h'
          · exact hk k' h'
          · rw [show k' = k by simpa using h']; exact hk1
        · rintro d ⟨out, m, rfl, em, _, ks, rfl, hl, hk⟩
          have : m = 3 := by
            have := PyData.int.inj (List.cons.inj em).1
            omega
          exact ⟨ks, rfl, by omega, hk⟩
      · rintro e1 e2 ⟨m1, m2, h1, h2, rfl⟩ ⟨ks, rfl, hl, hk⟩
        obtain ⟨k1, k2, k3, rfl⟩ : ∃ k1 k2 k3, ks = [k1, k2, k3] := by
          match ks, hl with
          | [k1, k2, k3], _ => exact ⟨k1, k2, k3, rfl⟩
        have b1 := hk k1 (by simp)
        have b2 := hk k2 (by simp)
        have b3 := hk k3 (by simp)
        refine ⟨_, _, rfl, rfl, (by show 2 + 3 ≤ sizeLine; rw [sizeLine_eq]; decide), [1 + (m1 : Int), m2, k1, k2, k3], rfl, rfl, fun f x hx => ?_⟩
        match f, hx with
        | 0, hx => cases hx; exact ⟨by show (1 : Int) ≤ _; omega, by show _ ≤ (8 : Int); omega⟩
        | 1, hx => cases hx; exact ⟨by show (0 : Int) ≤ _; omega, by show _ ≤ (6 : Int); omega⟩
        | 2, hx => cases hx; exact ⟨by show (0 : Int) ≤ _; omega, by show _ ≤ (15 : Int); omega⟩
        | 3, hx => cases hx; exact ⟨by show (0 : Int) ≤ _; omega, by show _ ≤ (15 : Int); omega⟩
        | 4, hx => cases hx; exact ⟨by show (0 : Int) ≤ _; omega, by show _ ≤ (15 : Int); omega⟩
        | n + 5, hx => simp at hx
    · obtain ⟨pl, rfl, l5, bnd⟩ := f17
      have upl : InU pl := ⟨l5, fun x hx => by
        obtain ⟨f, hf', e⟩ := List.getElem_of_mem hx
        have := bnd f x (by rw [List.getElem?_eq_getElem hf', e])
        have := hiF_le f
        omega⟩
      have r417 := rtrans r415 (rtrans r16 r17)
      -- the same there?
      refine sq_asg (W := W) (K := K) (F := fun d => d = .bool (!differ P1 Q1 pl)) (ev_eqD (ev_sAfter (ea_c (ev_var rfl (dmono r417 dP)) (ea_c (ev_var rfl d11) ea_nil)) oP' upl) (ev_sAfter (ea_c (ev_var rfl (dmono r417 dQ)) (ea_c (ev_var rfl d11) ea_nil)) oQ' upl) ?_) r17.2 fun v12 d H18 e r18 d12 => ?_
      · rintro e1 e2 ⟨A1, rfl, n1, m1⟩ ⟨A2, rfl, n2, m2⟩
        refine ⟨shaped_LS _, shaped_LS _, ?_⟩
        rw [eqv_LS, sorted_cmp n1 m1 n2 m2]
      · subst e
        obtain rfl := d_bl d12
        refine st_if (W := W) (et_and (B := fun b => b = decide (v10 = .non)) (C := fun b => b = differ P1 Q1 pl) (et_isN rfl) fun _ => et_is (et_notB (et_BD (K := K) (ev_var rfl (.bl _)))) (Bool.not_not _)) r18.2 (fun hb H19 r19 => ?_) fun _ H19 r19 => ?_
        · -- it cannot be
          exfalso
          rcases hb with ⟨h, _⟩ | ⟨h1, h2⟩
          · cases h
          · have nf := told (rtrans r16 (rtrans r17 r18)) h1.symm
            have al : ∀ s, InRows rows s → Alike P1 Q1 s := fun s hs => by
              have hm := (prodP_elem _ rows rfl s).mpr hs
              have := List.find?_eq_none.mp nf s hm
              exact differ_f.mp (by simpa using this)
            have := alike_all (rows := rows) (lo := fun f => (loF f : Int)) (hi := fun f => (hiF f : Int)) hrows.1 (fun f r h => row_ok (hrows.2 f r h)) (fun z hz => (ons z hz).1) al pl l5 bnd
            rw [differ_f.mpr this] at h2
            cases h2
        · exact ⟨_, _, _, rfl, rtrans r16 (rtrans r17 (rtrans r18 r19))⟩
  · rintro σ' H' ⟨y10, y11, y12, rfl, r16⟩
    show tRet (tC (V.bl true)) { nx := fun _ _ => False, rt := fun v _ => v = .bl true } [some (.ref p), some (.ref a), some vp, some vq, some (.str (PyData.shown (.list ([P1, Q1].map encP)))), some v6, some v7, some v8, some v9, some v10, y10, y11, y12, none, none, none, none] H'
    refine st_ret (W := W) (K := K) ev_bl r16.2 fun v d H17 e r17 dv => ?_
    subst e
    exact d_bl dv
end
end HB
/-! ## HBEnd -/
/-! the end (printed by gen_end.py) -/
namespace HB
open PySem PySem.Spec PyProof.Rows L2

def Df (K : PySem.W.Frag) (mg : Str → Option Value) (x : Str) (st : Stmt) (ps : List Str) : Prop := ∃ f fd, Fun K x x st f fd ∧ mg x = some (.ref f) ∧ Binds K fd ps []
theorem df_mk {K : PySem.W.Frag} {h : Heap} {mg : Str → Option Value} {x : Str} {st : Stmt} {ps : List Str} {f : Addr} {od an : Option Addr} {sl : Array (Option Value)} {oc kV dc pm cd ct : Value} (X : K.In h) (G : h.Ns mainGlobals mg)
    (b : ∀ (kV doc pm : Value) (an : Option Addr) (cdv ct : Value) (us : List Value), us.length = ps.length → bindArgs (PySem.W.fnOf x x (defArgs st) (defBody st) (defScope st) .none kV doc pm an cdv ct) ⟨us, []⟩ = pure (ps.zip us))
    (a : PySem.W.nsIn K mainGlobals x = some (some (.ref f))) (l : K.lookup f = some ⟨oc, od, .func (PySem.W.fnOf x x (defArgs st) (defBody st) (defScope st) .none kV dc pm an cd ct), sl⟩) (c : PySem.W.codeIn K cd x = true) (k : PySem.W.keepIn K (.ref f) = true) : Df K mg x st ps :=
  ⟨f, _, fun_mk l c k, PySem.W.mg_of X G a, (fun_mk l c k).binds b⟩
def Cn (K : PySem.W.Frag) (mg : Str → Option Value) (x : Str) (ds : List PyData) : Prop := ∃ a, mg x = some (.ref a) ∧ Kt K a ds
theorem cn_mk {K : PySem.W.Frag} {h : Heap} {mg : Str → Option Value} {x : Str} {ds : List PyData} {a : Addr} {its : Array Value} {n : Nat} {sl : Array (Option Value)} (X : K.In h) (G : h.Ns mainGlobals mg) (fl : ds.all flatD = true)
    (e : PySem.W.nsIn K mainGlobals x = some (some (.ref a))) (l : K.lookup a = some ⟨.type "tuple", none, .seq its n, sl⟩) (z : its.size ≤ 1000) (v : Vals (ds.map dV) its.toList) : Cn K mg x ds :=
  ⟨a, PySem.W.mg_of X G e, ⟨⟨_, its, n, l, rfl, rfl, rfl, Nat.le_of_lt (small1000 z), v⟩, fl⟩⟩
section
variable {P : Program} {w : World} {K : PySem.W.Frag} {mg : Str → Option Value} {base : Heap}
theorem lawK_of
    (d0 : Df K mg "place_of" (topS 4) ["field"])
    (d1 : Df K mg "test_holds" (topS 5) ["test", "state"])
    (d2 : Df K mg "_after_all" (topS 6) ["policy", "states"])
    (d3 : Df K mg "_after_star" (topS 7) ["policy", "state"])
    (d4 : Df K mg "after" (topS 8) ["policy", "state"])
    (d5 : Df K mg "_test_numbers" (topS 10) ["test"])
    (d6 : Df K mg "numbers_in" (topS 11) ["policy"])
    (d7 : Df K mg "samples" (topS 12) ["policies"])
    (d8 : Df K mg "all_states" (topS 13) ["rows"])
    (d9 : Df K mg "difference" (topS 14) ["policy", "other"])
    (d10 : Df K mg "named_numbers" (topS 15) ["policies", "field"])
    (d11 : Df K mg "_law_state" (topS 17) ["_law_script"])
    (d12 : Df K mg "_law_draw" (topS 18) ["_law_state_here", "_law_many"])
    (d13 : Df K mg "_law_test" (topS 19) ["_law_state_here", "_law_deep"])
    (d14 : Df K mg "_law_policy" (topS 20) ["_law_state_here", "_law_deep", "_law_fields"])
    (d15 : Df K mg "_law_holds" (topS 21) ["_law_test_here", "_law_state_here"])
    (d16 : Df K mg "_law_after" (topS 22) ["_law_policy_here", "_law_states_here"])
    (d17 : Df K mg "_law_numbers" (topS 23) ["_law_part"])
    (d18 : Df K mg "_law_samples" (topS 24) ["_law_policies"])
    (d19 : Df K mg "_law_other" (topS 25) ["_law_state_here", "_law_policy_here"])
    (d20 : Df K mg "_law_states" (topS 26) ["_law_rows"])
    (cF : Cn K mg "FIELDS" (fieldsD.map .str)) (cL : Cn K mg "LEAST" leastD) (cM : Cn K mg "MOST" mostD)
    (z0 : mg "repr" = none) (z1 : mg "len" = none) (z2 : mg "range" = none) (z3 : mg "sorted" = none) (z4 : mg "set" = none) (z5 : mg "tuple" = none) (z6 : mg "all" = none) (z7 : mg "any" = none) (z8 : mg "enumerate" = none) (z9 : mg "list" = none) (z10 : mg "abs" = none) (z11 : mg "int" = none) : LawK P w K mg base := by
  obtain ⟨f0, e0, F0, g0, b0⟩ := d0
  obtain ⟨f1, e1, F1, g1, b1⟩ := d1
  obtain ⟨f2, e2, F2, g2, b2⟩ := d2
  obtain ⟨f3, e3, F3, g3, b3⟩ := d3
  obtain ⟨f4, e4, F4, g4, b4⟩ := d4
  obtain ⟨f5, e5, F5, g5, b5⟩ := d5
  obtain ⟨f6, e6, F6, g6, b6⟩ := d6
  obtain ⟨f7, e7, F7, g7, b7⟩ := d7
  obtain ⟨f8, e8, F8, g8, b8⟩ := d8
  obtain ⟨f9, e9, F9, g9, b9⟩ := d9
  obtain ⟨f10, e10, F10, g10, b10⟩ := d10
  obtain ⟨f11, e11, F11, g11, b11⟩ := d11
  obtain ⟨f12, e12, F12, g12, b12⟩ := d12
  obtain ⟨f13, e13, F13, g13, b13⟩ := d13
  obtain ⟨f14, e14, F14, g14, b14⟩ := d14
  obtain ⟨f15, e15, F15, g15, b15⟩ := d15
  obtain ⟨f16, e16, F16, g16, b16⟩ := d16
  obtain ⟨f17, e17, F17, g17, b17⟩ := d17
  obtain ⟨f18, e18, F18, g18, b18⟩ := d18
  obtain ⟨f19, e19, F19, g19, b19⟩ := d19
  obtain ⟨f20, e20, F20, g20, b20⟩ := d20
  obtain ⟨aF, gF, kF⟩ := cF
  obtain ⟨aL, gL, kL⟩ := cL
  obtain ⟨aM, gM, kM⟩ := cM
  have G0 := ok_place (P := P) (w := w) (mg := mg) (base := base) F0 gF kF
  have G1 := ok_holds (P := P) (w := w) (mg := mg) (base := base) F1 g1 b1 F0 G0 g0 b0 z6 z7  3
  have G4 := ok_after (P := P) (w := w) (mg := mg) (base := base) F4 g4 b4 F1 G1 g1 b1 F0 G0 g0 b0 F2 g2 b2 F3 g3 b3 z1
  have G5 := ok_tn (P := P) (w := w) (mg := mg) (base := base) F5 g5 b5 3
  have G6 := ok_ni (P := P) (w := w) (mg := mg) (base := base) F6 g6 b6 F5 G5 g5 b5 7
  have G7 := ok_samples (P := P) (w := w) (mg := mg) (base := base) F7 F6 G6 g6 b6 gF kF gL kL gM kM z8 z2 z9 z3
  have G8 := ok_states (P := P) (w := w) (mg := mg) (base := base) F8
  have G9 := ok_diff (n := 7) (P := P) (w := w) (mg := mg) (base := base) F9 F4 (G4 7) g4 b4 F8 G8 g8 b8 F7 G7 g7 b7 z3
  have G10 := ok_named (n := 7) (P := P) (w := w) (mg := mg) (base := base) F10 F6 G6 g6 b6 F0 G0 g0 b0 F7 G7 g7 b7 z7
  have G11 := ok_state (P := P) (w := w) (mg := mg) (base := base) F11 z10 z11
  have G12 := ok_draw (P := P) (w := w) (mg := mg) (base := base) F12 z1 z2 z11
  have G13 := ok_ltest (P := P) (w := w) (mg := mg) (base := base) F13 g13 b13 F12 G12 g12 b12 z2 2
  have G14 := ok_lpol (P := P) (w := w) (mg := mg) (base := base) F14 g14 b14 F12 G12 g12 b12 F13 G13 g13 b13 z2 z1 z11 3
  have G15 := ok_lholds (P := P) (w := w) (mg := mg) (base := base) F15 g15 b15 3
  have G16 := ok_laft (P := P) (w := w) (mg := mg) (base := base) F16 g16 b16 F15 G15 g15 b15 z2 z4 z3 z1 z9 7
  have G17 := ok_lnums (P := P) (w := w) (mg := mg) (base := base) F17 g17 b17
  have G18 := ok_lsam (n := 7) (P := P) (w := w) (mg := mg) (base := base) F18 F17 (G17 10) g17 b17 z2 z4 z3
  have G19 := ok_loth (P := P) (w := w) (mg := mg) (base := base) F19 F12 G12 g12 b12 F13 G13 g13 b13 F14 G14 g14 b14
  have G20 := ok_lstates (P := P) (w := w) (mg := mg) (base := base) F20
  refine ⟨⟨_, _, F11, G11, g11, b11⟩, ⟨_, _, F12, G12, g12, b12⟩, ⟨_, _, F14, G14, g14, b14⟩, ⟨_, _, F19, G19, g19, b19⟩, ⟨_, _, F18, G18, g18, b18⟩, ⟨_, _, F17, G17 11, g17, b17⟩, ⟨_, _, F20, G20, g20, b20⟩, ⟨_, _, F16, G16, g16, b16⟩, ⟨_, _, F7, G7, g7, b7⟩, ⟨_, _, F10, G10, g10, b10⟩, ⟨_, _, F8, G8, g8, b8⟩, ⟨_, _, F9, G9, g9, b9⟩, ⟨_, _, F4, G4 7, g4, b4⟩, fun x hx => ?_⟩
  simp only [List.mem_cons, List.not_mem_nil, or_false] at hx
  rcases hx with rfl | rfl | rfl | rfl | rfl | rfl
  · exact z0
  · exact z1
  · exact z2
  · exact z3
  · exact z4
  · exact z5
end
theorem all_mk {P : Program} {w : World} {K : PySem.W.Frag} {h : Heap} {mg : Str → Option Value} {fa : Addr} {n : Nat} (hn : n ≤ 63) (X : K.In h) (G : h.Ns mainGlobals mg) (hfa : mg "law" = some (.ref fa))
    {f0 : Addr} {od0 an0 : Option Addr} {sl0 : Array (Option Value)} {oc0 kV0 dc0 pm0 cd0 ct0 : Value}
    {f1 : Addr} {od1 an1 : Option Addr} {sl1 : Array (Option Value)} {oc1 kV1 dc1 pm1 cd1 ct1 : Value}
    {f2 : Addr} {od2 an2 : Option Addr} {sl2 : Array (Option Value)} {oc2 kV2 dc2 pm2 cd2 ct2 : Value}
    {f3 : Addr} {od3 an3 : Option Addr} {sl3 : Array (Option Value)} {oc3 kV3 dc3 pm3 cd3 ct3 : Value}
    {f4 : Addr} {od4 an4 : Option Addr} {sl4 : Array (Option Value)} {oc4 kV4 dc4 pm4 cd4 ct4 : Value}
    {f5 : Addr} {od5 an5 : Option Addr} {sl5 : Array (Option Value)} {oc5 kV5 dc5 pm5 cd5 ct5 : Value}
    {f6 : Addr} {od6 an6 : Option Addr} {sl6 : Array (Option Value)} {oc6 kV6 dc6 pm6 cd6 ct6 : Value}
    {f7 : Addr} {od7 an7 : Option Addr} {sl7 : Array (Option Value)} {oc7 kV7 dc7 pm7 cd7 ct7 : Value}
    {f8 : Addr} {od8 an8 : Option Addr} {sl8 : Array (Option Value)} {oc8 kV8 dc8 pm8 cd8 ct8 : Value}
    {f9 : Addr} {od9 an9 : Option Addr} {sl9 : Array (Option Value)} {oc9 kV9 dc9 pm9 cd9 ct9 : Value}
    {f10 : Addr} {od10 an10 : Option Addr} {sl10 : Array (Option Value)} {oc10 kV10 dc10 pm10 cd10 ct10 : Value}
    {f11 : Addr} {od11 an11 : Option Addr} {sl11 : Array (Option Value)} {oc11 kV11 dc11 pm11 cd11 ct11 : Value}
    {f12 : Addr} {od12 an12 : Option Addr} {sl12 : Array (Option Value)} {oc12 kV12 dc12 pm12 cd12 ct12 : Value}
    {f13 : Addr} {od13 an13 : Option Addr} {sl13 : Array (Option Value)} {oc13 kV13 dc13 pm13 cd13 ct13 : Value}
    {f14 : Addr} {od14 an14 : Option Addr} {sl14 : Array (Option Value)} {oc14 kV14 dc14 pm14 cd14 ct14 : Value}
    {f15 : Addr} {od15 an15 : Option Addr} {sl15 : Array (Option Value)} {oc15 kV15 dc15 pm15 cd15 ct15 : Value}
    {f16 : Addr} {od16 an16 : Option Addr} {sl16 : Array (Option Value)} {oc16 kV16 dc16 pm16 cd16 ct16 : Value}
    {f17 : Addr} {od17 an17 : Option Addr} {sl17 : Array (Option Value)} {oc17 kV17 dc17 pm17 cd17 ct17 : Value}
    {f18 : Addr} {od18 an18 : Option Addr} {sl18 : Array (Option Value)} {oc18 kV18 dc18 pm18 cd18 ct18 : Value}
    {f19 : Addr} {od19 an19 : Option Addr} {sl19 : Array (Option Value)} {oc19 kV19 dc19 pm19 cd19 ct19 : Value}
    {f20 : Addr} {od20 an20 : Option Addr} {sl20 : Array (Option Value)} {oc20 kV20 dc20 pm20 cd20 ct20 : Value}
    {f21 : Addr} {od21 an21 : Option Addr} {sl21 : Array (Option Value)} {oc21 kV21 dc21 pm21 cd21 ct21 : Value}
    {aF : Addr} {itsF : Array Value} {nF : Nat} {sF : Array (Option Value)}
    {aL : Addr} {itsL : Array Value} {nL : Nat} {sL : Array (Option Value)}
    {aM : Addr} {itsM : Array Value} {nM : Nat} {sM : Array (Option Value)}
    (a0 : PySem.W.nsIn K mainGlobals "place_of" = some (some (.ref f0))) (l0 : K.lookup f0 = some ⟨oc0, od0, .func (PySem.W.fnOf "place_of" "place_of" (defArgs (topS 4)) (defBody (topS 4)) (defScope (topS 4)) .none kV0 dc0 pm0 an0 cd0 ct0), sl0⟩) (c0 : PySem.W.codeIn K cd0 "place_of" = true) (k0 : PySem.W.keepIn K (.ref f0) = true)
    (a1 : PySem.W.nsIn K mainGlobals "test_holds" = some (some (.ref f1))) (l1 : K.lookup f1 = some ⟨oc1, od1, .func (PySem.W.fnOf "test_holds" "test_holds" (defArgs (topS 5)) (defBody (topS 5)) (defScope (topS 5)) .none kV1 dc1 pm1 an1 cd1 ct1), sl1⟩) (c1 : PySem.W.codeIn K cd1 "test_holds" = true) (k1 : PySem.W.keepIn K (.ref f1) = true)
    (a2 : PySem.W.nsIn K mainGlobals "_after_all" = some (some (.ref f2))) (l2 : K.lookup f2 = some ⟨oc2, od2, .func (PySem.W.fnOf "_after_all" "_after_all" (defArgs (topS 6)) (defBody (topS 6)) (defScope (topS 6)) .none kV2 dc2 pm2 an2 cd2 ct2), sl2⟩) (c2 : PySem.W.codeIn K cd2 "_after_all" = true) (k2 : PySem.W.keepIn K (.ref f2) = true)
    (a3 : PySem.W.nsIn K mainGlobals "_after_star" = some (some (.ref f3))) (l3 : K.lookup f3 = some ⟨oc3, od3, .func (PySem.W.fnOf "_after_star" "_after_star" (defArgs (topS 7)) (defBody (topS 7)) (defScope (topS 7)) .none kV3 dc3 pm3 an3 cd3 ct3), sl3⟩) (c3 : PySem.W.codeIn K cd3 "_after_star" = true) (k3 : PySem.W.keepIn K (.ref f3) = true)
    (a4 : PySem.W.nsIn K mainGlobals "after" = some (some (.ref f4))) (l4 : K.lookup f4 = some ⟨oc4, od4, .func (PySem.W.fnOf "after" "after" (defArgs (topS 8)) (defBody (topS 8)) (defScope (topS 8)) .none kV4 dc4 pm4 an4 cd4 ct4), sl4⟩) (c4 : PySem.W.codeIn K cd4 "after" = true) (k4 : PySem.W.keepIn K (.ref f4) = true)
    (a5 : PySem.W.nsIn K mainGlobals "_test_numbers" = some (some (.ref f5))) (l5 : K.lookup f5 = some ⟨oc5, od5, .func (PySem.W.fnOf "_test_numbers" "_test_numbers" (defArgs (topS 10)) (defBody (topS 10)) (defScope (topS 10)) .none kV5 dc5 pm5 an5 cd5 ct5), sl5⟩) (c5 : PySem.W.codeIn K cd5 "_test_numbers" = true) (k5 : PySem.W.keepIn K (.ref f5) = true)
    (a6 : PySem.W.nsIn K mainGlobals "numbers_in" = some (some (.ref f6))) (l6 : K.lookup f6 = some ⟨oc6, od6, .func (PySem.W.fnOf "numbers_in" "numbers_in" (defArgs (topS 11)) (defBody (topS 11)) (defScope (topS 11)) .none kV6 dc6 pm6 an6 cd6 ct6), sl6⟩) (c6 : PySem.W.codeIn K cd6 "numbers_in" = true) (k6 : PySem.W.keepIn K (.ref f6) = true)
    (a7 : PySem.W.nsIn K mainGlobals "samples" = some (some (.ref f7))) (l7 : K.lookup f7 = some ⟨oc7, od7, .func (PySem.W.fnOf "samples" "samples" (defArgs (topS 12)) (defBody (topS 12)) (defScope (topS 12)) .none kV7 dc7 pm7 an7 cd7 ct7), sl7⟩) (c7 : PySem.W.codeIn K cd7 "samples" = true) (k7 : PySem.W.keepIn K (.ref f7) = true)
    (a8 : PySem.W.nsIn K mainGlobals "all_states" = some (some (.ref f8))) (l8 : K.lookup f8 = some ⟨oc8, od8, .func (PySem.W.fnOf "all_states" "all_states" (defArgs (topS 13)) (defBody (topS 13)) (defScope (topS 13)) .none kV8 dc8 pm8 an8 cd8 ct8), sl8⟩) (c8 : PySem.W.codeIn K cd8 "all_states" = true) (k8 : PySem.W.keepIn K (.ref f8) = true)
    (a9 : PySem.W.nsIn K mainGlobals "difference" = some (some (.ref f9))) (l9 : K.lookup f9 = some ⟨oc9, od9, .func (PySem.W.fnOf "difference" "difference" (defArgs (topS 14)) (defBody (topS 14)) (defScope (topS 14)) .none kV9 dc9 pm9 an9 cd9 ct9), sl9⟩) (c9 : PySem.W.codeIn K cd9 "difference" = true) (k9 : PySem.W.keepIn K (.ref f9) = true)
    (a10 : PySem.W.nsIn K mainGlobals "named_numbers" = some (some (.ref f10))) (l10 : K.lookup f10 = some ⟨oc10, od10, .func (PySem.W.fnOf "named_numbers" "named_numbers" (defArgs (topS 15)) (defBody (topS 15)) (defScope (topS 15)) .none kV10 dc10 pm10 an10 cd10 ct10), sl10⟩) (c10 : PySem.W.codeIn K cd10 "named_numbers" = true) (k10 : PySem.W.keepIn K (.ref f10) = true)
    (a11 : PySem.W.nsIn K mainGlobals "_law_state" = some (some (.ref f11))) (l11 : K.lookup f11 = some ⟨oc11, od11, .func (PySem.W.fnOf "_law_state" "_law_state" (defArgs (topS 17)) (defBody (topS 17)) (defScope (topS 17)) .none kV11 dc11 pm11 an11 cd11 ct11), sl11⟩) (c11 : PySem.W.codeIn K cd11 "_law_state" = true) (k11 : PySem.W.keepIn K (.ref f11) = true)
    (a12 : PySem.W.nsIn K mainGlobals "_law_draw" = some (some (.ref f12))) (l12 : K.lookup f12 = some ⟨oc12, od12, .func (PySem.W.fnOf "_law_draw" "_law_draw" (defArgs (topS 18)) (defBody (topS 18)) (defScope (topS 18)) .none kV12 dc12 pm12 an12 cd12 ct12), sl12⟩) (c12 : PySem.W.codeIn K cd12 "_law_draw" = true) (k12 : PySem.W.keepIn K (.ref f12) = true)
    (a13 : PySem.W.nsIn K mainGlobals "_law_test" = some (some (.ref f13))) (l13 : K.lookup f13 = some ⟨oc13, od13, .func (PySem.W.fnOf "_law_test" "_law_test" (defArgs (topS 19)) (defBody (topS 19)) (defScope (topS 19)) .none kV13 dc13 pm13 an13 cd13 ct13), sl13⟩) (c13 : PySem.W.codeIn K cd13 "_law_test" = true) (k13 : PySem.W.keepIn K (.ref f13) = true)
    (a14 : PySem.W.nsIn K mainGlobals "_law_policy" = some (some (.ref f14))) (l14 : K.lookup f14 = some ⟨oc14, od14, .func (PySem.W.fnOf "_law_policy" "_law_policy" (defArgs (topS 20)) (defBody (topS 20)) (defScope (topS 20)) .none kV14 dc14 pm14 an14 cd14 ct14), sl14⟩) (c14 : PySem.W.codeIn K cd14 "_law_policy" = true) (k14 : PySem.W.keepIn K (.ref f14) = true)
    (a15 : PySem.W.nsIn K mainGlobals "_law_holds" = some (some (.ref f15))) (l15 : K.lookup f15 = some ⟨oc15, od15, .func (PySem.W.fnOf "_law_holds" "_law_holds" (defArgs (topS 21)) (defBody (topS 21)) (defScope (topS 21)) .none kV15 dc15 pm15 an15 cd15 ct15), sl15⟩) (c15 : PySem.W.codeIn K cd15 "_law_holds" = true) (k15 : PySem.W.keepIn K (.ref f15) = true)
    (a16 : PySem.W.nsIn K mainGlobals "_law_after" = some (some (.ref f16))) (l16 : K.lookup f16 = some ⟨oc16, od16, .func (PySem.W.fnOf "_law_after" "_law_after" (defArgs (topS 22)) (defBody (topS 22)) (defScope (topS 22)) .none kV16 dc16 pm16 an16 cd16 ct16), sl16⟩) (c16 : PySem.W.codeIn K cd16 "_law_after" = true) (k16 : PySem.W.keepIn K (.ref f16) = true)
    (a17 : PySem.W.nsIn K mainGlobals "_law_numbers" = some (some (.ref f17))) (l17 : K.lookup f17 = some ⟨oc17, od17, .func (PySem.W.fnOf "_law_numbers" "_law_numbers" (defArgs (topS 23)) (defBody (topS 23)) (defScope (topS 23)) .none kV17 dc17 pm17 an17 cd17 ct17), sl17⟩) (c17 : PySem.W.codeIn K cd17 "_law_numbers" = true) (k17 : PySem.W.keepIn K (.ref f17) = true)
    (a18 : PySem.W.nsIn K mainGlobals "_law_samples" = some (some (.ref f18))) (l18 : K.lookup f18 = some ⟨oc18, od18, .func (PySem.W.fnOf "_law_samples" "_law_samples" (defArgs (topS 24)) (defBody (topS 24)) (defScope (topS 24)) .none kV18 dc18 pm18 an18 cd18 ct18), sl18⟩) (c18 : PySem.W.codeIn K cd18 "_law_samples" = true) (k18 : PySem.W.keepIn K (.ref f18) = true)
    (a19 : PySem.W.nsIn K mainGlobals "_law_other" = some (some (.ref f19))) (l19 : K.lookup f19 = some ⟨oc19, od19, .func (PySem.W.fnOf "_law_other" "_law_other" (defArgs (topS 25)) (defBody (topS 25)) (defScope (topS 25)) .none kV19 dc19 pm19 an19 cd19 ct19), sl19⟩) (c19 : PySem.W.codeIn K cd19 "_law_other" = true) (k19 : PySem.W.keepIn K (.ref f19) = true)
    (a20 : PySem.W.nsIn K mainGlobals "_law_states" = some (some (.ref f20))) (l20 : K.lookup f20 = some ⟨oc20, od20, .func (PySem.W.fnOf "_law_states" "_law_states" (defArgs (topS 26)) (defBody (topS 26)) (defScope (topS 26)) .none kV20 dc20 pm20 an20 cd20 ct20), sl20⟩) (c20 : PySem.W.codeIn K cd20 "_law_states" = true) (k20 : PySem.W.keepIn K (.ref f20) = true)
    (a21 : PySem.W.nsIn K mainGlobals "law" = some (some (.ref f21))) (l21 : K.lookup f21 = some ⟨oc21, od21, .func (PySem.W.fnOf "law" "law" (defArgs (topS 27)) (defBody (topS 27)) (defScope (topS 27)) .none kV21 dc21 pm21 an21 cd21 ct21), sl21⟩) (c21 : PySem.W.codeIn K cd21 "law" = true) (k21 : PySem.W.keepIn K (.ref f21) = true)
    (eF : PySem.W.nsIn K mainGlobals "FIELDS" = some (some (.ref aF))) (lF : K.lookup aF = some ⟨.type "tuple", none, .seq itsF nF, sF⟩) (zF : itsF.size ≤ 1000) (vF : Vals ((fieldsD.map .str).map dV) itsF.toList)
    (eL : PySem.W.nsIn K mainGlobals "LEAST" = some (some (.ref aL))) (lL : K.lookup aL = some ⟨.type "tuple", none, .seq itsL nL, sL⟩) (zL : itsL.size ≤ 1000) (vL : Vals (leastD.map dV) itsL.toList)
    (eM : PySem.W.nsIn K mainGlobals "MOST" = some (some (.ref aM))) (lM : K.lookup aM = some ⟨.type "tuple", none, .seq itsM nM, sM⟩) (zM : itsM.size ≤ 1000) (vM : Vals (mostD.map dV) itsM.toList)
    (z0 : PySem.W.nsIn K mainGlobals "repr" = some none) (z1 : PySem.W.nsIn K mainGlobals "len" = some none) (z2 : PySem.W.nsIn K mainGlobals "range" = some none) (z3 : PySem.W.nsIn K mainGlobals "sorted" = some none) (z4 : PySem.W.nsIn K mainGlobals "set" = some none) (z5 : PySem.W.nsIn K mainGlobals "tuple" = some none) (z6 : PySem.W.nsIn K mainGlobals "all" = some none) (z7 : PySem.W.nsIn K mainGlobals "any" = some none) (z8 : PySem.W.nsIn K mainGlobals "enumerate" = some none) (z9 : PySem.W.nsIn K mainGlobals "list" = some none) (z10 : PySem.W.nsIn K mainGlobals "abs" = some none) (z11 : PySem.W.nsIn K mainGlobals "int" = some none) :
    ∃ fd : FuncData, Fun K "law" "law" (topS 27) fa fd ∧ (∀ (s : Shared) (u : Value), BindsTo s fd ⟨[u], []⟩ [("_law_script", u)]) ∧
      ∀ (base : Heap) (s : Shared) (H : Hp) (a : Addr) (ns : List Int) (cdv : Value), K.In base → base.Ns mainGlobals mg → SqL K H a (ns.map V.int) → ns.length ≤ n →
        Room 30 (callerA.deeper (envOfC "law" (defScope (topS 27)) s.heap.objs.size fa cdv)) →
        ∃ t, PSs (cxOf CX0 P w K mg base lawN "law" (defScope (topS 27)) fa cdv callerA [] s H E0).nox (defBody (topS 27)) t ∧ t { nx := fun _ H' => False, rt := fun v _ => v = .bl true } (start lawN [.ref a]) H := by
  have e := hfa.symm.trans (PySem.W.mg_of X G a21)
  cases e
  refine ⟨_, fun_mk (st := topS 27) l21 c21 k21, fun s u => .of_eq rfl, fun base s H a ns cdv _ _ hS hl hr => law_body (lawK_of
    (df_mk X G (fun _ _ _ _ _ _ us hl => match us, hl with | [_], _ => rfl) a0 l0 c0 k0)
    (df_mk X G (fun _ _ _ _ _ _ us hl => match us, hl with | [_, _], _ => rfl) a1 l1 c1 k1)
    (df_mk X G (fun _ _ _ _ _ _ us hl => match us, hl with | [_, _], _ => rfl) a2 l2 c2 k2)
    (df_mk X G (fun _ _ _ _ _ _ us hl => match us, hl with | [_, _], _ => rfl) a3 l3 c3 k3)
    (df_mk X G (fun _ _ _ _ _ _ us hl => match us, hl with | [_, _], _ => rfl) a4 l4 c4 k4)
    (df_mk X G (fun _ _ _ _ _ _ us hl => match us, hl with | [_], _ => rfl) a5 l5 c5 k5)
    (df_mk X G (fun _ _ _ _ _ _ us hl => match us, hl with | [_], _ => rfl) a6 l6 c6 k6)
    (df_mk X G (fun _ _ _ _ _ _ us hl => match us, hl with | [_], _ => rfl) a7 l7 c7 k7)
    (df_mk X G (fun _ _ _ _ _ _ us hl => match us, hl with | [_], _ => rfl) a8 l8 c8 k8)
    (df_mk X G (fun _ _ _ _ _ _ us hl => match us, hl with | [_, _], _ => rfl) a9 l9 c9 k9)
    (df_mk X G (fun _ _ _ _ _ _ us hl => match us, hl with | [_, _], _ => rfl) a10 l10 c10 k10)
    (df_mk X G (fun _ _ _ _ _ _ us hl => match us, hl with | [_], _ => rfl) a11 l11 c11 k11)
    (df_mk X G (fun _ _ _ _ _ _ us hl => match us, hl with | [_, _], _ => rfl) a12 l12 c12 k12)
    (df_mk X G (fun _ _ _ _ _ _ us hl => match us, hl with | [_, _], _ => rfl) a13 l13 c13 k13)
    (df_mk X G (fun _ _ _ _ _ _ us hl => match us, hl with | [_, _, _], _ => rfl) a14 l14 c14 k14)
    (df_mk X G (fun _ _ _ _ _ _ us hl => match us, hl with | [_, _], _ => rfl) a15 l15 c15 k15)
    (df_mk X G (fun _ _ _ _ _ _ us hl => match us, hl with | [_, _], _ => rfl) a16 l16 c16 k16)
    (df_mk X G (fun _ _ _ _ _ _ us hl => match us, hl with | [_], _ => rfl) a17 l17 c17 k17)
    (df_mk X G (fun _ _ _ _ _ _ us hl => match us, hl with | [_], _ => rfl) a18 l18 c18 k18)
    (df_mk X G (fun _ _ _ _ _ _ us hl => match us, hl with | [_, _], _ => rfl) a19 l19 c19 k19)
    (df_mk X G (fun _ _ _ _ _ _ us hl => match us, hl with | [_], _ => rfl) a20 l20 c20 k20)
    (cn_mk X G (flatD_strs _) eF lF zF vF) (cn_mk X G rfl eL lL zL vL) (cn_mk X G rfl eM lM zM vM)
    (PySem.W.mg_none_of X G z0) (PySem.W.mg_none_of X G z1) (PySem.W.mg_none_of X G z2) (PySem.W.mg_none_of X G z3) (PySem.W.mg_none_of X G z4) (PySem.W.mg_none_of X G z5) (PySem.W.mg_none_of X G z6) (PySem.W.mg_none_of X G z7) (PySem.W.mg_none_of X G z8) (PySem.W.mg_none_of X G z9) (PySem.W.mg_none_of X G z10) (PySem.W.mg_none_of X G z11)) hS (Nat.le_trans hl hn) hr⟩
end HB
/-! ## HBLast -/
open PySem PySem.W PyProof.Rows
set_option maxHeartbeats 0 in
theorem PySem.Challenge.cw_hangbridge_k41_whole_equality_of_policie_holds : PySem.Challenge.rw_hangbridge_k41_whole_equality_of_policie.Holds := by
  w_on; o_law; k_head; (case hw => w_witness2)
  k_fill
  refine HB.walk_top (l := PySem.Challenge.rw_hangbridge_k41_whole_equality_of_policie) (n := 63) (k := 30) (st := HB.topS 27) (x := "_law_script") (N := HB.lawN) rfl (by decide) rfl ⟨rfl, by decide, by decide⟩ (fun w h Y => PySem.W.kIn_of Y) HB.scLaw ?F
  case F =>
    intro w mg fa h KX G hmg
    refine' HB.all_mk (Nat.le_refl 63) KX G hmg ?a0 ?l0 ?c0 ?k0 ?a1 ?l1 ?c1 ?k1 ?a2 ?l2 ?c2 ?k2 ?a3 ?l3 ?c3 ?k3 ?a4 ?l4 ?c4 ?k4 ?a5 ?l5 ?c5 ?k5 ?a6 ?l6 ?c6 ?k6 ?a7 ?l7 ?c7 ?k7 ?a8 ?l8 ?c8 ?k8 ?a9 ?l9 ?c9 ?k9 ?a10 ?l10 ?c10 ?k10 ?a11 ?l11 ?c11 ?k11 ?a12 ?l12 ?c12 ?k12 ?a13 ?l13 ?c13 ?k13 ?a14 ?l14 ?c14 ?k14 ?a15 ?l15 ?c15 ?k15 ?a16 ?l16 ?c16 ?k16 ?a17 ?l17 ?c17 ?k17 ?a18 ?l18 ?c18 ?k18 ?a19 ?l19 ?c19 ?k19 ?a20 ?l20 ?c20 ?k20 ?a21 ?l21 ?c21 ?k21 ?eF ?lF ?zF ?vF ?eL ?lL ?zL ?vL ?eM ?lM ?zM ?vM ?z0 ?z1 ?z2 ?z3 ?z4 ?z5 ?z6 ?z7 ?z8 ?z9 ?z10 ?z11
    (case a0 => k_is); (case l0 => k_is); (case c0 => k_is); (case k0 => k_is)
    (case a1 => k_is); (case l1 => k_is); (case c1 => k_is); (case k1 => k_is)
    (case a2 => k_is); (case l2 => k_is); (case c2 => k_is); (case k2 => k_is)
    (case a3 => k_is); (case l3 => k_is); (case c3 => k_is); (case k3 => k_is)
    (case a4 => k_is); (case l4 => k_is); (case c4 => k_is); (case k4 => k_is)
    (case a5 => k_is); (case l5 => k_is); (case c5 => k_is); (case k5 => k_is)
    (case a6 => k_is); (case l6 => k_is); (case c6 => k_is); (case k6 => k_is)
    (case a7 => k_is); (case l7 => k_is); (case c7 => k_is); (case k7 => k_is)
    (case a8 => k_is); (case l8 => k_is); (case c8 => k_is); (case k8 => k_is)
    (case a9 => k_is); (case l9 => k_is); (case c9 => k_is); (case k9 => k_is)
    (case a10 => k_is); (case l10 => k_is); (case c10 => k_is); (case k10 => k_is)
    (case a11 => k_is); (case l11 => k_is); (case c11 => k_is); (case k11 => k_is)
    (case a12 => k_is); (case l12 => k_is); (case c12 => k_is); (case k12 => k_is)
    (case a13 => k_is); (case l13 => k_is); (case c13 => k_is); (case k13 => k_is)
    (case a14 => k_is); (case l14 => k_is); (case c14 => k_is); (case k14 => k_is)
    (case a15 => k_is); (case l15 => k_is); (case c15 => k_is); (case k15 => k_is)
    (case a16 => k_is); (case l16 => k_is); (case c16 => k_is); (case k16 => k_is)
    (case a17 => k_is); (case l17 => k_is); (case c17 => k_is); (case k17 => k_is)
    (case a18 => k_is); (case l18 => k_is); (case c18 => k_is); (case k18 => k_is)
    (case a19 => k_is); (case l19 => k_is); (case c19 => k_is); (case k19 => k_is)
    (case a20 => k_is); (case l20 => k_is); (case c20 => k_is); (case k20 => k_is)
    (case a21 => k_is); (case l21 => k_is); (case c21 => k_is); (case k21 => k_is)
    (case eF => k_is); (case lF => k_is); (case zF => decide); (case vF => exact .cons ⟨_, rfl⟩ (.cons ⟨_, rfl⟩ (.cons ⟨_, rfl⟩ (.cons ⟨_, rfl⟩ (.cons ⟨_, rfl⟩ .nil)))))
    (case eL => k_is); (case lL => k_is); (case zL => decide); (case vL => exact .cons ⟨_, rfl⟩ (.cons ⟨_, rfl⟩ (.cons ⟨_, rfl⟩ (.cons ⟨_, rfl⟩ (.cons ⟨_, rfl⟩ .nil)))))
    (case eM => k_is); (case lM => k_is); (case zM => decide); (case vM => exact .cons ⟨_, rfl⟩ (.cons ⟨_, rfl⟩ (.cons ⟨_, rfl⟩ (.cons ⟨_, rfl⟩ (.cons ⟨_, rfl⟩ .nil)))))
    (case z0 => k_is)
    (case z1 => k_is)
    (case z2 => k_is)
    (case z3 => k_is)
    (case z4 => k_is)
    (case z5 => k_is)
    (case z6 => k_is)
    (case z7 => k_is)
    (case z8 => k_is)
    (case z9 => k_is)
    (case z10 => k_is)
    (case z11 => k_is)
