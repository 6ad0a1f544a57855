import PyProof.Rows.All
import HandS.TupSets
import HandS.SetBool
import Wide.All
import OpenK.AllK
import Wide.FinOn
import HandS.ForMost
import HandS.Wide
import HandS.Gcd
import HandS.IsInst
import HandS.TupAny
import HandS.TupMul
import HandS.TupLe
import HandS.Conv
import HandS.Flow
import KE.KMathG
import HandS.NoneIn
import KE.GoesMore
import HandS.Iter
import KE.DataCmp
import HandS.Style
import HandS.Dict
import KE.KDictPairs
import KE.KDictDisplayH
import KE.SortData
import HandS.DictTup
import PySem.Challenge.RW_counterheld_k77_whole_page_potentials
set_option Elab.async false
set_option linter.all false
set_option maxRecDepth 100000
/-! Sets of tuples of ints in tables of up to 8192 places. -/
namespace S
open PySem PyProof.Rows L2
/-! ### i -> 5 i + 1 goes through all residues of a power of two -/
def fv : Nat → Nat
  | 0 => 0
  | n + 1 => 5 * fv n + 1
theorem fv_add (a : Nat) : ∀ b, fv (a + b) = 5 ^ b * fv a + fv b
  | 0 => by simp [fv]
  | b + 1 => by
    show 5 * fv (a + b) + 1 = 5 ^ (b + 1) * fv a + (5 * fv b + 1)
    rw [fv_add a b, Nat.pow_succ, Nat.mul_add, Nat.mul_comm (5 ^ b) 5, Nat.mul_assoc, Nat.add_assoc]
theorem five_pow : ∀ n, ∃ r, 5 ^ n = 4 * r + 1
  | 0 => ⟨0, rfl⟩
  | n + 1 => by
    obtain ⟨r, e⟩ := five_pow n
    exact ⟨5 * r + 1, by rw [Nat.pow_succ, e]; omega⟩
theorem fv_two : ∀ k, ∃ q, fv (2 ^ k) = 2 ^ k * (2 * q + 1)
  | 0 => ⟨0, rfl⟩
  | k + 1 => by
    obtain ⟨q, e⟩ := fv_two k
    obtain ⟨r, e2⟩ := five_pow (2 ^ k)
    have e3 : fv (2 ^ (k + 1)) = (5 ^ (2 ^ k) + 1) * fv (2 ^ k) := by
      rw [Nat.pow_succ, Nat.mul_two, fv_add, Nat.add_mul, Nat.one_mul]
    refine ⟨2 * (r * q) + r + q, ?_⟩
    rw [e3, e2, e, Nat.pow_succ]
    have : (4 * r + 1 + 1) * (2 ^ k * (2 * q + 1)) = 2 ^ k * (2 * ((2 * r + 1) * (2 * q + 1))) := by
      rw [show 4 * r + 1 + 1 = 2 * (2 * r + 1) by omega]
      ac_rfl
    rw [this, Nat.mul_assoc (2 ^ k) 2]
    congr 2
    simp only [Nat.add_mul, Nat.mul_add, Nat.one_mul, Nat.mul_one]
    have : 2 * r * (2 * q) = 4 * (r * q) := by
      rw [show (4 : Nat) = 2 * 2 from rfl]; ac_rfl
    omega
theorem odd_mul {b q : Nat} : ∃ r, 5 ^ b * (2 * q + 1) = 2 * r + 1 := by
  obtain ⟨r, e⟩ := five_pow b
  refine ⟨4 * (r * q) + 2 * r + q, ?_⟩
  rw [e, Nat.mul_add, Nat.mul_one, Nat.add_mul, Nat.one_mul]
  have : 4 * r * (2 * q) = 8 * (r * q) := by
    rw [show (8 : Nat) = 4 * 2 from rfl]; ac_rfl
  omega
theorem fv_all : ∀ k j, j < 2 ^ k → ∃ b, b < 2 ^ k ∧ fv b % 2 ^ k = j
  | 0, j, h => ⟨0, by decide, by simp [fv] at h ⊢; omega⟩
  | k + 1, j, h => by
    have hN : 0 < 2 ^ k := Nat.pow_pos (by decide)
    have hp : 2 ^ (k + 1) = 2 * 2 ^ k := by rw [Nat.pow_succ, Nat.mul_comm]
    obtain ⟨b, hb, e⟩ := fv_all k (j % 2 ^ k) (Nat.mod_lt _ hN)
    obtain ⟨q, e2⟩ := fv_two k
    obtain ⟨r, e3⟩ := odd_mul (b := b) (q := q)
    rw [hp] at h ⊢
    have e4 : fv (2 ^ k + b) = (2 * 2 ^ k) * r + (2 ^ k + fv b) := by
      rw [fv_add, e2, show 5 ^ b * (2 ^ k * (2 * q + 1)) = 2 ^ k * (5 ^ b * (2 * q + 1)) by ac_rfl, e3, Nat.mul_add, Nat.mul_one]
      rw [show 2 ^ k * (2 * r) = 2 * 2 ^ k * r by ac_rfl]
      omega
    generalize 2 ^ k = N at *
    have e5 : fv b % (2 * N) % N = fv b % N := Nat.mod_mod_of_dvd _ ⟨2, by omega⟩
    have e6 : fv b % (2 * N) < 2 * N := Nat.mod_lt _ (by omega)
    by_cases c : fv b % (2 * N) = j
    · exact ⟨b, by omega, c⟩
    · refine ⟨N + b, by omega, ?_⟩
      rw [e4, Nat.mul_add_mod, Nat.add_mod, Nat.mod_eq_of_lt (show N < 2 * N by omega)]
      rw [e] at e5
      generalize fv b % (2 * N) = y at *
      -- y and j agree modulo N, are below 2 N and differ
      rcases Nat.lt_or_ge y N with a1 | a1 <;> rcases Nat.lt_or_ge j N with a2 | a2
      · rw [Nat.mod_eq_of_lt a1, Nat.mod_eq_of_lt a2] at e5; omega
      · rw [Nat.mod_eq_of_lt a1, Nat.mod_eq_sub_mod a2, Nat.mod_eq_of_lt (by omega)] at e5
        rw [Nat.mod_eq_of_lt (by omega)]; omega
      · rw [Nat.mod_eq_sub_mod a1, Nat.mod_eq_of_lt (show y - N < N by omega), Nat.mod_eq_of_lt a2] at e5
        rw [Nat.mod_eq_sub_mod (by omega), Nat.mod_eq_of_lt (by omega)]; omega
      · rw [Nat.mod_eq_sub_mod a1, Nat.mod_eq_of_lt (show y - N < N by omega), Nat.mod_eq_sub_mod a2, Nat.mod_eq_of_lt (show j - N < N by omega)] at e5; omega
/-- masks of tables -/
def Msk (m : Nat) : Prop := ∃ k, 3 ≤ k ∧ k ≤ 13 ∧ m + 1 = 2 ^ k
theorem lcgN_fv (m : Nat) : ∀ n, lcgN m n = fv n % (m + 1)
  | 0 => by show 0 = 0 % (m + 1); rw [Nat.zero_mod]
  | n + 1 => by
    show (lcgN m n * 5 + 1) % (m + 1) = (5 * fv n + 1) % (m + 1)
    rw [lcgN_fv m n, Nat.mul_comm 5, Nat.add_mod, Nat.mul_mod, Nat.mod_mod, ← Nat.mul_mod, ← Nat.add_mod]
/-- from each residue each one is met -/
theorem round_all {m : Nat} (hm : Msk m) {i j : Nat} (hi : i ≤ m) (hj : j ≤ m) : ∃ k, k ≤ m ∧ lcgI m i k = j := by
  obtain ⟨k, _, _, e⟩ := hm
  obtain ⟨a, ha, ea⟩ := fv_all k i (by omega)
  obtain ⟨b, hb, eb⟩ := fv_all k j (by omega)
  rw [← e] at ha hb ea eb
  have hi' : lcgN m a = i := by rw [lcgN_fv]; exact ea
  have per : ∀ n, fv (m + 1 + n) % (m + 1) = fv n % (m + 1) := fun n => by
    obtain ⟨q, e2⟩ := fv_two k
    rw [fv_add, e, e2, ← e, show 5 ^ n * ((m + 1) * (2 * q + 1)) = (m + 1) * (5 ^ n * (2 * q + 1)) by ac_rfl, Nat.mul_add_mod]
  refine ⟨if a ≤ b then b - a else b + (m + 1) - a, by split <;> omega, ?_⟩
  rw [← hi', lcgN_add, lcgN_fv]
  split
  · rw [show a + (b - a) = b by omega]; exact eb
  · rw [show a + (b + (m + 1) - a) = m + 1 + b by omega, per]; exact eb
theorem run_all {m : Nat} (hm : Msk m) (h : Int) {j : Nat} (hj : j ≤ m) : ∃ n, n < SetTable.turns m ∧ runI m (SetTable.bits h) n = j := by
  obtain ⟨k, hk, e⟩ := round_all hm (runI_le m (SetTable.bits h) 12) hj
  refine ⟨12 + k, by unfold SetTable.turns; omega, ?_⟩
  rw [runI_tail (bits_lt h), e]
/-- the slots in the order of the search -/
abbrev wy (m : Nat) (h : Int) (k : Nat) : Nat := way m h k
theorem wy_le {m : Nat} {h : Int} {k : Nat} : way m h k ≤ m := by
  have hi : SetTable.bits h % (m + 1) ≤ m := Nat.le_of_lt_succ (Nat.mod_lt _ (Nat.succ_pos _))
  have r := runEnd_bd hi
  have q := nth_in (m := m) k (runAt m (SetTable.bits h % (m + 1)) (SetTable.bits h)) (by
    show SetTable.bits h % (m + 1) + (SetTable.runEnd m (SetTable.bits h % (m + 1)) - SetTable.bits h % (m + 1)) ≤ m
    omega)
  exact Nat.le_trans (Nat.le_add_right _ _) q
end S

set_option Elab.async false
set_option linter.all false
set_option maxRecDepth 100000
namespace S
open PySem PyProof.Rows L2
/-- some step of the way comes to each slot, early enough -/
theorem meets {m : Nat} (hm : Msk m) (h : Int) {j : Nat} (hj : j ≤ m) : ∃ k, k < 10 * SetTable.turns m ∧ way m h k = j := by
  obtain ⟨n, hn, e⟩ := run_all hm h hj
  obtain ⟨k, hk, e2⟩ := run_nth m (SetTable.bits h) n
  exact ⟨k, by omega, (congrArg SetTable.Probe.j e2).trans e⟩
theorem first_of {p : Nat → Prop} {n : Nat} (h : p n) : ∃ K, K ≤ n ∧ p K ∧ ∀ c, c < K → ¬ p c := st_least n h
/-- a table in which each hash of hs stands where a search for it comes by -/
structure Tb (t : SetTable) (hs : List Int) : Prop where
  up : Ris t.place.toList
  no : t.dummies = #[]
  len : t.place.toList.length = hs.length
  mo : Msk t.mask
  lim : ∀ j ∈ t.place.toList, j ≤ t.mask
  seen : ∀ (i : Nat) (h : Int) (j : Nat), hs[i]? = some h → t.place.toList[i]? = some j → ∃ c, way t.mask h c = j ∧ ∀ b, b < c → way t.mask h b ∈ t.place.toList
section
variable {t : SetTable} {hs : List Int}
theorem Tb.gap (T : Tb t hs) (hl : hs.length ≤ t.mask) (h : Int) : ∃ K, K < 10 * SetTable.turns t.mask ∧ way t.mask h K ∉ t.place.toList ∧ ∀ c, c < K → way t.mask h c ∈ t.place.toList := by
  obtain ⟨j, hj, out⟩ := st_missing t.place.toList (t.mask + 1) (by have := T.len; omega)
  obtain ⟨n, hn, e⟩ := meets T.mo h (show j ≤ t.mask by omega)
  obtain ⟨K, a1, a2, a3⟩ := first_of (p := fun c => way t.mask h c ∉ t.place.toList) (n := n) (by rw [e]; exact out)
  exact ⟨K, by omega, a2, fun c hc => Classical.byContradiction fun z => a3 c hc z⟩
theorem Tb.ahead (T : Tb t hs) {h : Int} {K i j : Nat} (out : way t.mask h K ∉ t.place.toList) (hi : hs[i]? = some h) (hj : t.place.toList[i]? = some j) : ∃ c, c < K ∧ way t.mask h c = j := by
  obtain ⟨c, e, before⟩ := T.seen i h j hi hj
  refine ⟨c, ?_, e⟩
  refine Classical.byContradiction fun z => out ?_
  by_cases q : c = K
  · subst q; rw [e]; exact List.mem_of_getElem? hj
  · exact before K (by omega)
/-- one more hash, at the first gap of its way -/
theorem Tb.more (T : Tb t hs) {h : Int} {K : Nat} (out : way t.mask h K ∉ t.place.toList) (before : ∀ c, c < K → way t.mask h c ∈ t.place.toList) {p : Nat} (hp : SetTable.below t.place (way t.mask h K) = p) :
    p ≤ hs.length ∧ Tb (t.put (way t.mask h K)).1 (hs.take p ++ h :: hs.drop p) := by
  have lt : p ≤ t.place.size := by rw [← hp]; exact (below_cut T.up _).1
  have lt2 : p ≤ t.place.toList.length := lt
  have lt3 : p ≤ hs.length := by rw [← T.len]; exact lt2
  have pl := put_place t (way t.mask h K)
  rw [hp] at pl
  have fresh : t.place[SetTable.below t.place (way t.mask h K)]? ≠ some (way t.mask h K) := fun e => out (List.mem_of_getElem? (by rw [Array.getElem?_toList]; exact e))
  have old : ∀ {x}, x ∈ t.place.toList → x ∈ (t.put (way t.mask h K)).1.place.toList := fun hx => by rw [pl]; exact mem_ins.2 (.inr hx)
  have km : (t.put (way t.mask h K)).1.mask = t.mask := rfl
  refine ⟨lt3, ⟨ris_insert T.up fresh, put_dm T.no _, ?_, T.mo, ?_, ?_⟩⟩
  · rw [pl, len_ins _ lt2, len_ins _ lt3, T.len]
  · intro x hx
    rw [pl] at hx
    rcases mem_ins.1 hx with e | e
    · rw [e]; exact wy_le
    · exact T.lim x e
  · intro i h' j' e1 e2
    rw [km]
    rw [tins_get hs lt3] at e1
    rw [pl, tins_get _ lt2] at e2
    have lift : (∃ c, way t.mask h' c = j' ∧ ∀ b, b < c → way t.mask h' b ∈ t.place.toList) → ∃ c, way t.mask h' c = j' ∧ ∀ b, b < c → way t.mask h' b ∈ (t.put (way t.mask h K)).1.place.toList := fun ⟨c, a, z⟩ => ⟨c, a, fun b hb => old (z b hb)⟩
    by_cases c1 : i < p
    · rw [if_pos c1] at e1 e2; exact lift (T.seen _ _ _ e1 e2)
    · rw [if_neg c1] at e1 e2
      by_cases c2 : i = p
      · rw [if_pos c2] at e1 e2
        cases e1
        cases e2
        exact lift ⟨K, rfl, before⟩
      · rw [if_neg c2] at e1 e2; exact lift (T.seen _ _ _ e1 e2)
end
/-! ### a table laid anew -/
/-- the place that is given to a hash -/
theorem place_of {m : Nat} (hm : Msk m) (owner : Array (Option Nat)) (h : Int) {j : Nat} (hj : j ≤ m) (hf : oAt owner j = none) :
    ∃ K, SetTable.layClean.free m owner (SetTable.turns m) (SetTable.bits h % (m + 1)) (SetTable.bits h) = some (way m h K) ∧ oAt owner (way m h K) = none ∧ ∀ c, c < K → oAt owner (way m h c) ≠ none := by
  obtain ⟨n, hn, e⟩ := run_all hm h hj
  have e2 : way m h (off m (SetTable.bits h % (m + 1)) (SetTable.bits h) n) = j := by
    show (nth m (runAt m (SetTable.bits h % (m + 1)) (SetTable.bits h)) (off m (SetTable.bits h % (m + 1)) (SetTable.bits h) n)).j = j
    rw [nth_off, itL_run]; exact e
  obtain ⟨K, a1, a2, a3⟩ := first_of (p := fun c => oAt owner (way m h c) = none) (n := off m (SetTable.bits h % (m + 1)) (SetTable.bits h) n) (by rw [e2]; exact hf)
  refine ⟨K, free_spec m owner (SetTable.turns m) n _ _ K hn a1 (fun c hc => ?_) ?_, a2, a3⟩
  · cases z : oAt owner (nth m (runAt m (SetTable.bits h % (m + 1)) (SetTable.bits h)) c).j with
    | none => exact absurd z (a3 c hc)
    | some _ => rfl
  · rw [show oAt owner (nth m (runAt m (SetTable.bits h % (m + 1)) (SetTable.bits h)) K).j = none from a2]; rfl
/-- owners of slots after some hashes: each hash k has one slot, where a search for it comes by -/
structure Ow (m : Nat) (done : List Int) (ow : Array (Option Nat)) : Prop where
  sz : ow.size = m + 1
  slot : ∀ k, k < done.length → ∃ j, j ≤ m ∧ oAt ow j = some k
  back : ∀ j k, j ≤ m → oAt ow j = some k → ∃ h c, done[k]? = some h ∧ way m h c = j ∧ ∀ b, b < c → oAt ow (way m h b) ≠ none
  taken : ∃ js : List Nat, js.length = done.length ∧ ∀ j, j ≤ m → oAt ow j ≠ none → j ∈ js
theorem Ow.next {m : Nat} (hm : Msk m) {done : List Int} {ow : Array (Option Nat)} (W : Ow m done ow) (hl : done.length ≤ m) (h : Int) :
    ∃ j, SetTable.layClean.free m ow (SetTable.turns m) (SetTable.bits h % (m + 1)) (SetTable.bits h) = some j ∧ Ow m (done ++ [h]) (ow.setIfInBounds j (some done.length)) := by
  obtain ⟨js, l1, l2⟩ := W.taken
  obtain ⟨g, g1, g2⟩ := st_missing js (m + 1) (by omega)
  have g3 : oAt ow g = none := Classical.byContradiction fun z => g2 (l2 g (by omega) z)
  obtain ⟨K, a1, a2, a3⟩ := place_of hm ow h (show g ≤ m by omega) g3
  have lim : way m h K ≤ m := wy_le
  have me := oAt_set_self (owner := ow) (some done.length) (show way m h K < ow.size by rw [W.sz]; omega)
  have keep : ∀ {i}, i ≠ way m h K → oAt (ow.setIfInBounds (way m h K) (some done.length)) i = oAt ow i := fun hi => oAt_set_ne _ hi
  have full : ∀ {i}, oAt ow i ≠ none → oAt (ow.setIfInBounds (way m h K) (some done.length)) i ≠ none := fun {i} hi => by
    by_cases c : i = way m h K
    · rw [c, me]; exact fun z => nomatch z
    · rw [keep c]; exact hi
  generalize hj : way m h K = j at *
  refine ⟨j, a1, by rw [Array.size_setIfInBounds]; exact W.sz, fun k hk => ?_, fun i k hi e => ?_, j :: js, by rw [List.length_cons, List.length_append, l1]; rfl, fun i hi e => ?_⟩
  · by_cases c : k = done.length
    · exact ⟨j, lim, by rw [c]; exact me⟩
    · obtain ⟨i, b1, b2⟩ := W.slot k (by rw [List.length_append, List.length_singleton] at hk; omega)
      exact ⟨i, b1, by rw [keep (fun z => by rw [z, a2] at b2; cases b2)]; exact b2⟩
  · by_cases c : i = j
    · rw [c, me] at e
      cases e
      exact ⟨h, K, by simp, hj.trans c.symm, fun b hb => full (a3 b hb)⟩
    · rw [keep c] at e
      obtain ⟨h', c', b1, b2, b3⟩ := W.back i k hi e
      exact ⟨h', c', by rw [List.getElem?_append_left (List.getElem?_eq_some_iff.mp b1).1]; exact b1, b2, fun b hb => full (b3 b hb)⟩
  · by_cases c : i = j
    · rw [c]; exact List.mem_cons_self
    · rw [keep c] at e; exact List.mem_cons_of_mem _ (l2 i hi e)
theorem Ow.all {m : Nat} (hm : Msk m) (hs : List Int) : ∀ (done : List Int) (ow : Array (Option Nat)), Ow m done ow → done.length + hs.length ≤ m →
    ∃ ow', hs.foldl (stepF m) (some (ow, done.length)) = some (ow', (done ++ hs).length) ∧ Ow m (done ++ hs) ow' := by
  induction hs with
  | nil => intro done ow W _; exact ⟨ow, by simp, by simpa using W⟩
  | cons h r ih =>
    intro done ow W hl
    rw [List.length_cons] at hl
    obtain ⟨j, e, W2⟩ := W.next hm (by omega) h
    have l1 : (done ++ [h]).length = done.length + 1 := by simp
    obtain ⟨ow', f, W3⟩ := ih (done ++ [h]) _ W2 (by rw [l1]; omega)
    rw [List.append_assoc, List.singleton_append] at f W3
    rw [l1] at f
    exact ⟨ow', by rw [List.foldl_cons, stepF_some e]; exact f, W3⟩
theorem Ow.clean {m : Nat} (hm : Msk m) {hs : Array Int} (hn : hs.size ≤ m) : ∃ ow, SetTable.layClean m hs = some ow ∧ Ow m hs.toList ow := by
  have W0 : Ow m [] (Array.replicate (m + 1) none) := ⟨by simp, fun k hk => absurd hk (Nat.not_lt_zero _), (fun j k hj e => by rw [oAt_init hj] at e; cases e), [], rfl, fun j hj e => absurd (oAt_init hj) e⟩
  obtain ⟨ow, f, W⟩ := Ow.all hm hs.toList [] _ W0 (by rw [Array.length_toList]; show 0 + hs.size ≤ m; omega)
  refine ⟨ow, ?_, W⟩
  rw [layClean_eq, show (some (Array.replicate (m + 1) (none : Option Nat), 0)) = some (Array.replicate (m + 1) none, ([] : List Int).length) from rfl, f]
  rfl
theorem Tb.anew (t : SetTable) {hs : Array Int} {wanted M : Nat} (hw : SetTable.sizeAbove wanted - 1 = M) (hM : Msk M) (hn : hs.size ≤ M) :
    ∃ t' order, t.relaid hs wanted = some (t', order) ∧ order.toList.Perm (List.range hs.size) ∧ Tb t' (order.toList.map fun i => hs.getD i 0) ∧ t'.mask = M ∧ t'.led = t.led ∧ t'.plain = t.plain := by
  obtain ⟨ow, e, W⟩ := Ow.clean hM hn
  have live : ∀ {j k}, (j, k) ∈ liveOf M ow ↔ j ≤ M ∧ oAt ow j = some k := mem_live W.sz
  obtain ⟨r1, r2⟩ := ris_live (fun j => ow.getD j none) (List.range (M + 1)) (by unfold Ris; exact List.pairwise_lt_range)
  have r1 : Ris ((liveOf M ow).map (·.1)) := r1
  have r2 : ∀ j ∈ (liveOf M ow).map (·.1), j ∈ List.range (M + 1) := r2
  have count : (liveOf M ow).length = hs.size := by
    obtain ⟨js, l1, l2⟩ := W.taken
    have a := nat_nodup_len ((liveOf M ow).map (·.1)) js (List.Pairwise.imp (fun z => Nat.ne_of_lt z) (show List.Pairwise (· < ·) ((liveOf M ow).map (·.1)) from r1)) fun j hj => by
      obtain ⟨⟨i, k⟩, hq, e1⟩ := List.mem_map.mp hj
      cases e1
      obtain ⟨b1, b2⟩ := live.1 hq
      exact l2 i b1 (by rw [b2]; exact fun z => nomatch z)
    have b := nat_nodup_len (List.range hs.size) ((liveOf M ow).map (·.2)) List.nodup_range fun k hk => by
      obtain ⟨j, b1, b2⟩ := W.slot k (List.mem_range.mp hk)
      exact List.mem_map.mpr ⟨(j, k), live.2 ⟨b1, b2⟩, rfl⟩
    rw [List.length_map, l1] at a
    rw [List.length_map, List.length_range] at b
    have : hs.toList.length = hs.size := rfl
    omega
  refine ⟨tabOf t M ow, ((liveOf M ow).map (·.2)).toArray, by rw [relaid_eq, hw, e]; rfl, ?_, ⟨r1, rfl, ?_, hM, ?_, ?_⟩, rfl, rfl, rfl⟩
  · refine perm_range hs.size _ (by show ((liveOf M ow).map (·.2)).length = _; rw [List.length_map, count]) fun k hk => ?_
    obtain ⟨j, b1, b2⟩ := W.slot k hk
    exact List.mem_map.mpr ⟨(j, k), live.2 ⟨b1, b2⟩, rfl⟩
  · show ((liveOf M ow).map (·.1)).length = (((liveOf M ow).map (·.2)).map fun i => hs.getD i 0).length
    simp only [List.length_map]
  · exact fun j hj => Nat.le_of_lt_succ (List.mem_range.mp (r2 j hj))
  · intro i h j e1 e2
    have e1 : (((liveOf M ow).map (·.2)).map fun i => hs.getD i 0)[i]? = some h := e1
    have e2 : ((liveOf M ow).map (·.1))[i]? = some j := e2
    rw [List.getElem?_map, List.getElem?_map] at e1
    rw [List.getElem?_map] at e2
    obtain ⟨⟨y, k⟩, q⟩ : ∃ q, (liveOf M ow)[i]? = some q := by
      cases z : (liveOf M ow)[i]? with
      | none => rw [z] at e2; cases e2
      | some q => exact ⟨q, rfl⟩
    rw [q] at e1 e2
    cases e2
    obtain ⟨b1, b2⟩ := live.1 (List.mem_of_getElem? q)
    obtain ⟨h0, c, d1, d2, d3⟩ := W.back y k b1 b2
    have e3 : hs.getD k 0 = h0 := by rw [Array.getD_eq_getD_getElem?, ← Array.getElem?_toList, d1]; rfl
    have e4 : h = h0 := (Option.some.inj e1).symm.trans e3
    subst e4
    refine ⟨c, d2, fun b hb => ?_⟩
    show way M h b ∈ (liveOf M ow).map (·.1)
    cases z : oAt ow (way M h b) with
    | none => exact absurd z (d3 b hb)
    | some k2 => exact List.mem_map.mpr ⟨(way M h b, k2), live.2 ⟨wy_le, z⟩, rfl⟩
end S

set_option Elab.async false
set_option linter.all false
set_option maxRecDepth 100000
namespace S
open PySem PyProof.Rows L2
section
variable {P : Program} {w : World} {A : Around} {E : Value → Shared → Prop} {s : Shared} {a : Addr} {L : List (Addr × List Int)} {es : Array (Int × Value)} {ep : Nat} {t : SetTable}
/-- the masks that come -/
def Six (m : Nat) : Prop := m = 7 ∨ m = 31 ∨ m = 127 ∨ m = 511 ∨ m = 2047 ∨ m = 8191
theorem Six.msk {m : Nat} (h : Six m) : Msk m := by
  rcases h with rfl | rfl | rfl | rfl | rfl | rfl
  · exact ⟨3, by decide, by decide, rfl⟩
  · exact ⟨5, by decide, by decide, rfl⟩
  · exact ⟨7, by decide, by decide, rfl⟩
  · exact ⟨9, by decide, by decide, rfl⟩
  · exact ⟨11, by decide, by decide, rfl⟩
  · exact ⟨13, by decide, by decide, rfl⟩
/-- the set object at a holds the tuples L -/
structure SG (P : Program) (w : World) (h : Heap) (a : Addr) (L : List (Addr × List Int)) (es : Array (Int × Value)) (ep : Nat) (t : SetTable) : Prop where
  obj : ∃ o, h.get? a = some o ∧ o.ExactSet ∧ o.data = .set es ep t
  ent : es.toList = rowsOf P w L
  tab : Tb t (L.map fun p => thash P w p.2)
  one : (L.map (·.2)).Nodup
  tup : ∀ p ∈ L, IsT P w h p.2 p.1
  pln : t.plain = true
  ord : w.params.followText "set-order" = true ∨ t.led = true
  room : L.length * 5 < t.mask * 3
  six : Six t.mask
theorem ent_size (h : es.toList = rowsOf P w L) : es.size = L.length := by
  have := congrArg List.length h
  unfold rowsOf at this
  rwa [Array.length_toList, List.length_map] at this
theorem SG.size (R : SG P w s.heap a L es ep t) : es.size = L.length := ent_size R.ent
theorem SG.cnt (R : SG P w s.heap a L es ep t) : t.place.toList.length = L.length := by rw [R.tab.len, List.length_map]
theorem msk_lim {m : Nat} (h : Msk m) : 7 ≤ m ∧ m ≤ 8191 ∧ m % 2 = 1 := by
  obtain ⟨k, h1, h2, e⟩ := h
  have a1 : 2 ^ 3 ≤ 2 ^ k := Nat.pow_le_pow_right (by decide) h1
  have a2 : 2 ^ k ≤ 2 ^ 13 := Nat.pow_le_pow_right (by decide) h2
  have a3 : 2 ^ k % 2 = 0 := by
    obtain ⟨j, rfl⟩ : ∃ j, k = j + 1 := ⟨k - 1, by omega⟩
    rw [Nat.pow_succ]; omega
  omega
theorem fits_of {n : Nat} (h1 : t.dummies = #[]) (h2 : t.place.toList.length = n) (h3 : n ≤ t.mask) : t.fits n = true := by
  have e : t.place.size = n := h2
  unfold SetTable.fits SetTable.fill
  rw [h1, e]
  simp [h3]
theorem SG.fits (R : SG P w s.heap a L es ep t) : t.fits es.size = true := fits_of R.tab.no (R.cnt.trans R.size.symm) (by have := R.room; have := R.size; omega)
theorem SG.at (R : SG P w s.heap a L es ep t) {i : Nat} {p : Addr × List Int} (h : L[i]? = some p) : es[i]? = some (thash P w p.2, Value.ref p.1) := by
  rw [← Array.getElem?_toList, R.ent]
  unfold rowsOf
  rw [List.getElem?_map, h]
  rfl
theorem SG.hash (R : SG P w s.heap a L es ep t) {i : Nat} {p : Addr × List Int} (h : L[i]? = some p) : (es[i]?.map (·.1)).getD 0 = thash P w p.2 := by rw [R.at h]; rfl
/-- the n-th stand of a search -/
abbrev pr (m : Nat) (h : Int) (n : Nat) : SetTable.Probe := nth m (runAt m (SetTable.bits h % (m + 1)) (SetTable.bits h)) n
theorem pr_on (m : Nat) (h : Int) (c q : Nat) : nth m (pr m h c) q = pr m h (c + q) := (nth_add m c _ q).symm
theorem adv_dm {m : Nat} {p : SetTable.Probe} (h : p.dummy = none) : (adv m p).dummy = none := by unfold adv; split <;> exact h
theorem pr_dm (m : Nat) (h : Int) (n : Nat) : (pr m h n).dummy = none := by
  induction n with
  | zero => rfl
  | succ n ih => show (nth m _ (n + 1)).dummy = none; rw [nth_succ]; exact adv_dm ih
/-- the search for a tuple, from its c-th stand on: K is the first gap -/
theorem find_go (R : SG P w s.heap a L es ep t) {x : Addr} {k : List Int} (hx : IsT P w s.heap k x) (hu : A.units < cLine) {K : Nat} (lim : K < 10 * SetTable.turns t.mask)
    (gap : way t.mask (thash P w k) K ∉ t.place.toList) (full : ∀ c, c < K → way t.mask (thash P w k) c ∈ t.place.toList) {Q : SetFound → Shared → Prop}
    (yes : k ∈ L.map (·.2) → Q (.there none) s) (no : k ∉ L.map (·.2) → Q (.free (way t.mask (thash P w k) K) false) s) (f : Nat) :
    ∀ (c : Nat) (stand : Option SetTable.Probe), stand.getD (t.probeStart (thash P w k)) = pr t.mask (thash P w k) c → c ≤ K → K < c + f →
      (∀ (i : Nat) p, L[i]? = some p → p.2 = k → ∃ c', c ≤ c' ∧ c' < K ∧ t.place.toList[i]? = some (way t.mask (thash P w k) c')) →
      wpAny (model P w) A (setSearchFrom a (.ref x) (thash P w k) true f stand) Q E s := by
  induction f with
  | zero => intro c stand _ h1 h2; omega
  | succ f ih =>
    intro c stand st le lt left
    obtain ⟨o, ho, hex, hd⟩ := R.obj
    have spec := go_spec t R.tab.up R.tab.no (fun i => (es[i]?.map (·.1)).getD 0) (thash P w k) (10 * SetTable.turns t.mask) (K - c) (pr t.mask (thash P w k) c) (pr_dm ..) (by omega)
      (fun q hq => by rw [pr_on]; exact full (c + q) (by omega)) (by rw [pr_on, show c + (K - c) = K by omega]; exact gap)
    simp only [pr_on] at spec
    rw [← st] at spec
    rw [setSearchFrom_succ]
    refine wpAny_bind (wpAny_setState_of ho hd R.fits ?_)
    have odd : ¬ t.gaveWay = true := by
      unfold SetTable.gaveWay
      rw [(msk_lim R.tab.mo).2.2]
      decide
    refine wp_if_neg odd ?_
    rcases spec with ⟨q, i, hq, hi, hh, hno, hgo⟩ | ⟨hno, hgo⟩
    · rw [show t.probe (fun i => (es[i]?.map (·.1)).getD 0) (thash P w k) (stand.getD (t.probeStart (thash P w k))) = _ from hgo]
      have hil : i < L.length := by
        have := (List.getElem?_eq_some_iff.mp hi).1
        have := R.cnt
        omega
      obtain ⟨p, hp⟩ : ∃ p, L[i]? = some p := ⟨_, List.getElem?_eq_getElem hil⟩
      have hpm : p ∈ L := List.mem_of_getElem? hp
      have main : wpAny (model P w) A (searchRest a (.ref x) (thash P w k) true f es t (way t.mask (thash P w k) (c + q)) i (pr t.mask (thash P w k) (c + (q + 1)))) Q E s := by
        unfold searchRest
        rw [R.at hp]
        refine wpAny_bind (wpAny_holding (wpAny_eqBool_tuple hu (R.tup p hpm) hx ?_))
        refine wpAny_bind (wpAny_setState_of ho hd R.fits ?_)
        by_cases same : p.2 = k
        · refine wp_if_pos (by simp [same]) ?_
          exact wpAny_pure (yes (List.mem_map.mpr ⟨p, hpm, same⟩))
        · refine wp_if_neg (by simp [same]) ?_
          rw [sameMem]
          have here := slot_live R.tab.up hi
          simp only [if_true, here, R.at hp]
          refine wpAny_bind (wpAny_isSame_ref_self (wpAny_bind (wpAny_pure ?_)))
          simp only [if_true]
          refine wp_if_neg (by simp [same]) ?_
          refine ih (c + (q + 1)) _ rfl (by omega) (by omega) fun i0 p0 h0 h1 => ?_
          obtain ⟨c', b1, b2, b3⟩ := left i0 p0 h0 h1
          refine ⟨c', Classical.byContradiction fun z => ?_, b2, b3⟩
          by_cases z2 : c' = c + q
          · subst z2
            have := slot_live R.tab.up b3
            rw [here] at this
            injection this with this
            subst this
            rw [hp] at h0
            cases h0
            exact same h1
          · exact hno (c' - c) i0 (by omega) (by rw [show c + (c' - c) = c' by omega]; exact b3) ((R.hash h0).trans (by rw [h1]))
      by_cases hl : t.led = true
      · refine wp_if_neg (by simp [hl]) ?_
        exact main
      · refine wp_if_pos (by simp [hl]) ?_
        refine wpAny_bind (seen_tup hx (fun y hy => ?_) ?_)
        · obtain ⟨e, he, ee⟩ := List.mem_map.mp hy
          have he : e ∈ es ∧ e.1 = thash P w k := by simpa using he
          have he2 : e ∈ es.toList := by simpa using he.1
          rw [R.ent] at he2
          obtain ⟨p2, hp2, e2⟩ := List.mem_map.mp he2
          exact ⟨p2.2, p2.1, by rw [← ee, ← e2], R.tup p2 hp2⟩
        · refine wp_if_neg (by decide) ?_
          exact main
    · rw [show c + (K - c) = K by omega] at hgo
      rw [show t.probe (fun i => (es[i]?.map (·.1)).getD 0) (thash P w k) (stand.getD (t.probeStart (thash P w k))) = _ from hgo]
      refine wpAny_pure (no fun hm => ?_)
      obtain ⟨p, hp, e⟩ := List.mem_map.mp hm
      obtain ⟨i, hi, e2⟩ := List.getElem_of_mem hp
      have hp2 : L[i]? = some p := by rw [List.getElem?_eq_getElem hi, e2]
      obtain ⟨c', b1, b2, b3⟩ := left i p hp2 e
      exact hno (c' - c) i (by omega) (by rw [show c + (c' - c) = c' by omega]; exact b3) ((R.hash hp2).trans (by rw [e]))
theorem find_set (R : SG P w s.heap a L es ep t) {x : Addr} {k : List Int} (hx : IsT P w s.heap k x) (hu : A.units < cLine) {Q : SetFound → Shared → Prop} (yes : k ∈ L.map (·.2) → Q (.there none) s)
    (no : ∀ K, k ∉ L.map (·.2) → way t.mask (thash P w k) K ∉ t.place.toList → (∀ c, c < K → way t.mask (thash P w k) c ∈ t.place.toList) → Q (.free (way t.mask (thash P w k) K) false) s) :
    wpAny (model P w) A (setSearch a (.ref x) (thash P w k) true) Q E s := by
  have room := R.room
  have ml := msk_lim R.tab.mo
  obtain ⟨K, lim, gap, full⟩ := R.tab.gap (by rw [List.length_map]; omega) (thash P w k)
  unfold setSearch
  refine find_go R hx hu lim gap full yes (fun z => no K z gap full) 100000 0 none rfl (Nat.zero_le _) (by unfold SetTable.turns at lim; omega) fun i p hp e => ?_
  obtain ⟨j, hj⟩ : ∃ j, t.place.toList[i]? = some j := by
    have : i < t.place.toList.length := by
      have := (List.getElem?_eq_some_iff.mp hp).1
      have := R.cnt
      omega
    exact ⟨_, List.getElem?_eq_getElem this⟩
  obtain ⟨c, b1, b2⟩ := R.tab.ahead gap (by rw [List.getElem?_map, hp, ← e]; rfl) hj
  exact ⟨c, Nat.zero_le _, b1, by rw [hj, b2]⟩
end
end S

set_option Elab.async false
set_option linter.all false
set_option maxRecDepth 100000
namespace S
open PySem PyProof.Rows L2
section
variable {P : Program} {w : World} {A : Around} {E : Value → Shared → Prop} {s : Shared} {a : Addr} {L : List (Addr × List Int)} {es : Array (Int × Value)} {ep : Nat} {t : SetTable}
/-- laid anew in a larger table -/
theorem set_anew {o : Obj} (ho : s.heap.get? a = some o) (hex : o.ExactSet) (hd : o.data = .set es ep t) (ent : es.toList = rowsOf P w L) (tab : Tb t (L.map fun p => thash P w p.2)) (one : (L.map (·.2)).Nodup)
    (tup : ∀ p ∈ L, IsT P w s.heap p.2 p.1) (pln : t.plain = true) (ord : w.params.followText "set-order" = true ∨ t.led = true) (fit : L.length ≤ t.mask) {wanted M : Nat} (hw : SetTable.sizeAbove wanted = M + 1) (six : Six M) (hn : L.length * 5 < M * 3) {Q : Unit → Shared → Prop}
    (hQ : ∀ h' L' es' ep' t', Heap.SameBut a s.heap h' → SG P w h' a L' es' ep' t' → L'.Perm L → Q () { s with heap := h' }) : wpAny (model P w) A (setRelay a wanted) Q E s := by
  have sz := ent_size ent
  have ml := msk_lim six.msk
  have fits : t.fits es.size = true := fits_of tab.no (by rw [tab.len, List.length_map, sz]) (by omega)
  obtain ⟨t', order, e, perm, T, k1, k2, k3⟩ := Tb.anew t (hs := es.map (·.1)) (wanted := wanted) (M := M) (by omega) six.msk (by rw [Array.size_map]; omega)
  rw [Array.size_map, sz] at perm
  obtain ⟨L2, r1, r2, r3⟩ := order_rows L es order ent perm
  rw [← r3] at T
  have sz2 : (order.filterMap (es[·]?)).size = es.size := by rw [ent_size r1, r2.length_eq, sz]
  rw [setRelay_eq]
  refine wpAny_bind (wpAny_setState_of ho hd fits ?_)
  refine wp_if_neg (by rw [sizeLine_eq]; omega) ?_
  rw [e]
  refine wpAny_bind ?_
  refine wp_if_neg (by rw [sz2]; simp) ?_
  refine wpAny_pure ?_
  refine wpAny_storeSet_of ho hd ?_ (by rw [sz2, sz, sizeLine_eq]; omega)
  have sb : Heap.SameBut a s.heap (s.heap.update a (Obj.putSet (order.filterMap (es[·]?)) t')) := Heap.SameBut.update ..
  refine hQ _ L2 (order.filterMap (es[·]?)) (ep + 1) t' sb ⟨⟨_, store_at ho hd, ⟨hex.1, hex.2.1, hex.2.2⟩, rfl⟩, r1, T, (r2.map (·.2)).nodup_iff.mpr one, fun p hp => isT_same (tup p (r2.mem_iff.mp hp)) ho hd sb, by rw [k3]; exact pln, by rw [k2]; exact ord, by rw [r2.length_eq, k1]; exact hn, by rw [k1]; exact six⟩ r2
theorem grow_case {m n : Nat} (h : Six m) (room : n * 5 < m * 3) (full : (n + 1) * 5 ≥ m * 3) (lim : n + 1 ≤ 4900) : ∃ M, SetTable.sizeAbove (SetTable.grown (n + 1)) = M + 1 ∧ Six M ∧ (n + 1) * 5 < M * 3 := by
  rcases h with e | e | e | e | e | e
  · obtain rfl : n = 4 := by omega
    exact ⟨31, by decide +kernel, .inr (.inl rfl), by decide⟩
  · obtain rfl : n = 18 := by omega
    exact ⟨127, by decide +kernel, .inr (.inr (.inl rfl)), by decide⟩
  · obtain rfl : n = 76 := by omega
    exact ⟨511, by decide +kernel, .inr (.inr (.inr (.inl rfl))), by decide⟩
  · obtain rfl : n = 306 := by omega
    exact ⟨2047, by decide +kernel, .inr (.inr (.inr (.inr (.inl rfl)))), by decide⟩
  · obtain rfl : n = 1228 := by omega
    exact ⟨8191, by decide +kernel, .inr (.inr (.inr (.inr (.inr rfl)))), by decide⟩
  · omega
/-- one more tuple -/
theorem set_more (R : SG P w s.heap a L es ep t) {x : Addr} {k : List Int} (hx : IsT P w s.heap k x) (hu : A.units < cLine) (lim : L.length + 1 ≤ 4900) {Q : Bool → Shared → Prop}
    (hQ : ∀ b h' L' es' ep' t', Heap.SameBut a s.heap h' → SG P w h' a L' es' ep' t' → (k ∈ L.map (·.2) → L' = L) → (k ∉ L.map (·.2) → L'.Perm ((x, k) :: L)) → Q b { s with heap := h' }) :
    wpAny (model P w) A (setAddHashed a (.ref x) (thash P w k)) Q E s := by
  obtain ⟨o, ho, hex, hd⟩ := R.obj
  have ml := msk_lim R.tab.mo
  have room := R.room
  unfold setAddHashed
  refine wpAny_holding ?_
  rw [show (100000 : Nat) = 99999 + 1 from rfl, setAddHashedIn_succ]
  refine wpAny_bind (wpAny_setState_of ho hd R.fits ?_)
  refine wp_if_neg (by simp [byScan, Value.scannable]) ?_
  refine wpAny_bind (find_set R hx hu (fun hm => ?_) fun K hm gap full => ?_)
  · exact wpAny_pure (hQ false s.heap L es ep t (Heap.SameBut.refl a s.heap) R (fun _ => rfl) fun z => absurd hm z)
  refine wpAny_bind (wpAny_setState_of ho hd R.fits ?_)
  dsimp only
  obtain ⟨lp, T⟩ := R.tab.more gap full rfl
  have km : (t.put (way t.mask (thash P w k) K)).1.mask = t.mask := rfl
  have kl : (t.put (way t.mask (thash P w k) K)).1.led = t.led := rfl
  have kp : (t.put (way t.mask (thash P w k) K)).1.plain = true := R.pln
  have kb : (t.put (way t.mask (thash P w k) K)).2 = SetTable.below t.place (way t.mask (thash P w k) K) := rfl
  generalize hpt : t.put (way t.mask (thash P w k) K) = pt at T km kl kp kb ⊢
  obtain ⟨t1, p⟩ := pt
  dsimp only at T km kl kp kb ⊢
  generalize SetTable.below t.place (way t.mask (thash P w k) K) = p' at *
  subst kb
  refine wp_if_pos kp (wpAny_bind (hashBy_tup hx ?_))
  simp only [if_true]
  have ent1 : (SetTable.insertAt es p (thash P w k, Value.ref x)).toList = rowsOf P w (L.take p ++ (x, k) :: L.drop p) := by rw [SetTable.toList_insertAt, rows_put, R.ent]
  have pm := put_perm L p (x, k)
  have hmap : (L.map fun p => thash P w p.2).take p ++ thash P w k :: (L.map fun p => thash P w p.2).drop p = (L.take p ++ (x, k) :: L.drop p).map fun p => thash P w p.2 := by
    rw [List.map_append, List.map_cons, List.map_take, List.map_drop]
  rw [hmap] at T
  have one1 : ((L.take p ++ (x, k) :: L.drop p).map (·.2)).Nodup := by
    refine (pm.map (·.2)).nodup_iff.mpr ?_
    rw [List.map_cons]
    exact List.nodup_cons.mpr ⟨hm, R.one⟩
  generalize SetTable.insertAt es p (thash P w k, Value.ref x) = es1 at ent1 ⊢
  generalize L.take p ++ (x, k) :: L.drop p = L1 at pm T one1 ent1
  have len1 : L1.length = L.length + 1 := pm.length_eq
  have sz1 := ent_size ent1
  refine wpAny_bind (wpAny_storeSet_of ho hd ?_ (by rw [sz1, len1, sizeLine_eq]; omega))
  have sb : Heap.SameBut a s.heap (s.heap.update a (Obj.putSet es1 t1)) := Heap.SameBut.update ..
  have ho1 := store_at (es' := es1) (t' := t1) ho hd
  generalize s.heap.update a (Obj.putSet es1 t1) = h1 at sb ho1 ⊢
  have tup1 : ∀ p ∈ L1, IsT P w h1 p.2 p.1 := fun p hp => by
    rcases List.mem_cons.mp (pm.mem_iff.mp hp) with e | e
    · rw [e]; exact isT_same hx ho hd sb
    · exact isT_same (R.tup p e) ho hd sb
  have ord1 : w.params.followText "set-order" = true ∨ t1.led = true := by rw [kl]; exact R.ord
  have fill1 : t1.fill = L.length + 1 := by
    unfold SetTable.fill
    rw [T.no, show t1.place.size = t1.place.toList.length from rfl, T.len, List.length_map, len1]
    rfl
  have hes : es.size = L.length := R.size
  by_cases hf : t1.tooFull = true
  · refine wp_if_pos (by simp [hf]) (wpAny_bind ?_)
    have over : (L.length + 1) * 5 ≥ t.mask * 3 := by
      unfold SetTable.tooFull at hf
      rw [decide_eq_true_eq, fill1, km] at hf
      exact hf
    obtain ⟨M, g1, g2, g3⟩ := grow_case R.six room over lim
    rw [hes]
    refine set_anew (s := { s with heap := h1 }) ho1 ⟨hex.1, hex.2.1, hex.2.2⟩ rfl ent1 T one1 tup1 kp ord1 (by rw [len1, km]; omega) g1 g2 (by rw [len1]; exact g3) ?_
    intro h2 L2 es2 ep2 t2 sb2 R2 pm2
    exact wpAny_pure (hQ true h2 L2 es2 ep2 t2 (sb.trans sb2) R2 (fun z => absurd z hm) fun _ => pm2.trans pm)
  · refine wp_if_neg (by simp [hf]) ?_
    refine wpAny_pure (hQ true h1 L1 es1 (ep + 1) t1 sb ⟨⟨_, ho1, ⟨hex.1, hex.2.1, hex.2.2⟩, rfl⟩, ent1, T, one1, tup1, kp, ord1, ?_, by rw [km]; exact R.six⟩ (fun z => absurd z hm) fun _ => pm)
    unfold SetTable.tooFull at hf
    rw [decide_eq_true_eq, fill1] at hf
    rw [len1]
    omega
end
end S

set_option Elab.async false
set_option linter.all false
set_option maxRecDepth 100000
namespace S
open PySem PySem.Spec PyProof.Rows L2
/-- what is true of the set object alone -/
def OneG (P : Program) (w : World) (h : Heap) (a : Addr) (L : List (Addr × List Int)) : Prop :=
  ∃ (es : Array (Int × Value)) (ep : Nat) (t : SetTable), (∃ o, h.get? a = some o ∧ o.ExactSet ∧ o.data = .set es ep t) ∧ es.toList = rowsOf P w L ∧ Tb t (L.map fun p => thash P w p.2) ∧ (L.map (·.2)).Nodup ∧ t.plain = true ∧
    (w.params.followText "set-order" = true ∨ t.led = true) ∧ L.length * 5 < t.mask * 3 ∧ Six t.mask
/-- the set of the tuples L, as a tracked thing -/
def GO (P : Program) (w : World) (a : Addr) (L : List (Addr × List Int)) : HO := .ext fun h => OneG P w h a L
theorem SG.oneG {P : Program} {w : World} {h : Heap} {a : Addr} {L : List (Addr × List Int)} {es : Array (Int × Value)} {ep : Nat} {t : SetTable} (R : SG P w h a L es ep t) : OneG P w h a L :=
  ⟨es, ep, t, R.obj, R.ent, R.tab, R.one, R.pln, R.ord, R.room, R.six⟩
theorem OneG.sg {P : Program} {w : World} {h : Heap} {a : Addr} {L : List (Addr × List Int)} (R : OneG P w h a L) (ht : ∀ p ∈ L, IsT P w h p.2 p.1) : ∃ es ep t, SG P w h a L es ep t := by
  obtain ⟨es, ep, t, h1, h2, h3, h4, h5, h6, h7, h8⟩ := R
  exact ⟨es, ep, t, h1, h2, h3, h4, ht, h5, h6, h7, h8⟩
theorem OneG.stays {P : Program} {w : World} {h h' : Heap} {a : Addr} {L : List (Addr × List Int)} (R : OneG P w h a L) (k : ∀ o, h.get? a = some o → h'.get? a = some o) : OneG P w h' a L := by
  obtain ⟨es, ep, t, ⟨o, h1, h2⟩, h3⟩ := R
  exact ⟨es, ep, t, ⟨o, k o h1, h2⟩, h3⟩
theorem go_ok {P : Program} {w : World} {H : Hp} {h : Heap} {a : Addr} {L : List (Addr × List Int)} (R : OneG P w h a L) : ObjOk P w H h a (GO P w a L) := by
  have R' := R
  obtain ⟨_, _, _, ⟨o, ho, _⟩, _⟩ := R'
  exact ⟨R, ⟨o, ho⟩, fun h1 h2 p k => p.stays k⟩
/-- a new set is empty -/
theorem oneG_new {P : Program} {w : World} {h : Heap} {a : Addr} (ho : h.get? a = some { cls := .type "set", dict := none, data := .set #[] 0 (.fresh 0 0 (!w.params.followText "set-order")) }) : OneG P w h a [] := by
  refine ⟨#[], 0, _, ⟨_, ho, ⟨rfl, rfl, rfl⟩, rfl⟩, rfl, ⟨List.Pairwise.nil, rfl, rfl, (show Six 7 from .inl rfl).msk, fun j hj => (by cases hj), fun i h j e => (by simp at e)⟩, List.nodup_nil, rfl, ?_, by show 0 * 5 < 7 * 3; decide, show Six 7 from .inl rfl⟩
  show _ ∨ (!w.params.followText "set-order") = true
  cases w.params.followText "set-order"
  · exact .inr rfl
  · exact .inl rfl
/-- D.add(x), a tuple -/
theorem set_add {P : Program} {w : World} {A : Around} {E : Value → Shared → Prop} {s : Shared} {a : Addr} {L : List (Addr × List Int)} {es : Array (Int × Value)} {ep : Nat} {t : SetTable} (R : SG P w s.heap a L es ep t) {x : Addr} {k : List Int} (hx : IsT P w s.heap k x) (hu : A.units + 1 < cLine) (lim : L.length + 1 ≤ 4900) {Q : Value → Shared → Prop}
    (hQ : ∀ h' tk L' es' ep' t', Heap.SameBut a s.heap h' → SG P w h' a L' es' ep' t' → (k ∈ L.map (·.2) → L' = L) → (k ∉ L.map (·.2) → L'.Perm ((x, k) :: L)) → Q .none { s with heap := h', toks := tk }) :
    wpAny (model P w) A (call (.builtin "set.add") [.ref a, .ref x]) Q E s := by
  have hT : s.TypeIs (.ref a) "set" := by
    obtain ⟨o, ho, hex, _⟩ := R.obj
    exact ⟨o, ho, hex.1⟩
  refine wpAny_call_entry F.slot_set_add hT F.entry_set_add ?_ (F.args_set_add_2 _ _)
  unfold Builtin.«set.add» Builtin.Frozenset.oneOther
  simp only [List.isEmpty_nil, bind_assoc]
  unfold Builtin.Frozenset.addrOf setAdd
  refine wpAny_bind (wpAny_pure ?_)
  refine wpAny_bind (wpAny_pure ?_)
  refine wpAny_bind ?_
  refine wpAny_holding ?_
  refine wpAny_bind (wpAny_pyHash_tuple (by first | exact hu | exact Nat.lt_of_succ_lt hu | omega) hx ?_)
  refine set_more (s := { s with toks := s.toks + (k.length + 1) }) R hx (by first | exact hu | exact Nat.lt_of_succ_lt hu | omega) lim fun b h' L' es' ep' t' sb R' c1 c2 => ?_
  exact wpAny_pure ⟨_, rfl, hQ h' _ L' es' ep' t' sb R' c1 c2⟩
section
variable {X : Cx} {pins : List (Addr × Obj)} {σ : L2.St} {H : Hp} {s : Shared}
/-- the same, of tracked things -/
theorem track_add {E : Value → Shared → Prop} {D x : Addr} {L : List (Addr × List Int)} {k : List Int} {Q : Value → Shared → Prop} (I : Inv X pins σ H s) (hu : X.A.units + 64 < cLine) (hD : H D = some (GO X.prog X.w D L)) (hL : ∀ p ∈ L, SqT X.K H p.1 (p.2.map V.int)) (hx : SqT X.K H x (k.map V.int)) (lim : L.length + 1 ≤ 4900)
    (h : ∀ L' s', (k ∈ L.map (·.2) → L' = L) → (k ∉ L.map (·.2) → L'.Perm ((x, k) :: L)) → Inv X pins σ (upd H D (GO X.prog X.w D L')) s' → Q .none s') : wpAny (model X.prog X.w) X.A (call (.builtin "set.add") [.ref D, .ref x]) Q E s := by
  have R1 : OneG X.prog X.w s.heap D L := (I.hok D _ hD).1
  obtain ⟨es, ep, t, R⟩ := R1.sg fun p hp => I.isT (hL p hp)
  refine set_add R (I.isT hx) (by omega) lim fun h' tk L' es' ep' t' sb R' c1 c2 => ?_
  have he : ∃ u, h'.get? D = some u := by
    obtain ⟨o, ho, _⟩ := R'.obj
    exact ⟨o, ho⟩
  exact h L' _ c1 c2 (I.write (e := D) (t' := tk) (by rw [hD]; trivial) (.inl rfl) (fun b u hb hu => (sb.2 b hb).trans hu) he (go_ok R'.oneG))
/-- len(D) -/
theorem track_len {E : Value → Shared → Prop} {D : Addr} {L : List (Addr × List Int)} {Q : Value → Shared → Prop} (I : Inv X pins σ H s) (hD : H D = some (GO X.prog X.w D L)) (hL : ∀ p ∈ L, SqT X.K H p.1 (p.2.map V.int)) (lim : L.length ≤ 4900)
    (h : ∀ tk tk', Q (.int L.length tk) { s with toks := s.toks + 2 + tk' }) : wpAny (model X.prog X.w) X.A (call (.builtin "len") [.ref D]) Q E s := by
  have R1 : OneG X.prog X.w s.heap D L := (I.hok D _ hD).1
  obtain ⟨es, ep, t, R⟩ := R1.sg fun p hp => I.isT (hL p hp)
  obtain ⟨o, ho, hex, hd⟩ := R.obj
  have sz := R.size
  refine call_len_set ho hex hd R.fits (by rw [sz]; omega) ?_
  have := h (s.toks + 1) 0
  rw [sz]
  exact this
end
end S

set_option Elab.async false
set_option linter.all false
set_option maxRecDepth 100000
set_option maxHeartbeats 2000000
namespace S
open PySem PySem.Spec PyProof.Rows L2
section
variable {X : Cx}
/-- {elt for tg in iter}, elt a tuple of ints -/
def tSetG (P : Program) (w : World) (K : PySem.W.Frag) (wi : TI) (g : TG) (te : TE) (vs : List Nat) : TE := fun σ H Q => wi σ H fun J H1 => ∀ D, H1 D = none → ∃ Wh : Nat → Nat → Hp → Prop, (∃ m, Wh 0 m (upd H1 D (GO P w D []))) ∧ ∀ i m H2, Wh i m H2 →
  (J.stop i H2 ∧ Q (.ref D) H2) ∨ (J.go i H2 ∧ ∃ On : Hp → Prop, (∀ H', On H' → ∃ m', m' < m ∧ Wh (i + 1) m' H') ∧ ∀ x H', J.yld i H2 x H' → g x (wipe σ vs) H' fun σ2 H3 => wipe σ2 vs = wipe σ vs ∧
    te σ2 H3 fun y H4 => ∃ (b : Addr) (k : List Int) (L : List (Addr × List Int)), y = .ref b ∧ SqT K H4 b (k.map V.int) ∧ H4 D = some (GO P w D L) ∧ (∀ p ∈ L, SqT K H4 p.1 (p.2.map V.int)) ∧ L.length + 1 ≤ 4900 ∧
      ∀ L', (k ∈ L.map (·.2) → L' = L) → (k ∉ L.map (·.2) → L'.Perm ((b, k) :: L)) → On (upd H4 D (GO P w D L')))
/-- the loop's frame: what the turns of a comprehension leave as it is -/
structure Fram (X Y : Cx) (fp : List Addr) (tn : Nat → Heap → Prop) (σ0 : L2.St) (i : Nat) (H : Hp) (s : Shared) : Prop where
  iv : Inv Y [] σ0 H s
  at_ : tn i s.heap
  out : ∀ b ∈ fp, H b = none
theorem comp_sets {elt tg iter : Expr} {scope : Scope} {own : List (PySem.Str × Nat)} {pos : Pos} {wi : TI} {g : TG} {te : TE} (hc : X.calm = true) (hu : X.A.units + 64 < cLine) (hN : X.N.Nodup) (hi : PI X tg iter wi) (ok : BlkOk X.N X.env.scope scope own)
    (hg : ∀ (s : Shared) (H : Hp) (C : Addr) (cl : List (PySem.Str × Addr)) (fp : List Addr), PG (X.blk s H scope (compEnvC scope cl C X.env) fp) tg g)
    (he : ∀ (s : Shared) (H : Hp) (C : Addr) (cl : List (PySem.Str × Addr)) (fp : List Addr), PE (X.blk s H scope (compEnvC scope cl C X.env) fp) elt te) (hs : ∀ x, foldedSetIterable iter X.env x = pure x := by intro _; rfl) :
    PE X (.SetComp elt [⟨tg, iter, [], 0⟩] scope pos) (tSetG X.prog X.w X.K wi g te (own.map (·.2))) := by
  refine ⟨fun pins s σ H Q I h => ?_⟩
  rw [PpSet.eval_SetComp]
  have cells : ∀ y ∈ scope.names, y.2 = .free → ∃ c, X.env.cells.lookup y.1 = some c := fun y hy e => (ok.free y hy e).elim (fun z => I.ok.has _ (.inl z)) (fun z => I.ok.has _ (.inr z))
  refine wpAny_comprehension_free (use := none) rfl hs (closure_ok cells) ok.kind (fun y hy e => by rw [ok.uniq y hy, e]) (thn (hi.run pins s σ H _ I h) fun xv s1 hx => thn hx fun itv s2 h2 => ?_)
  obtain ⟨it, fp, tn, J, H2, rfl, I2, T, here, apart, q⟩ := h2
  refine PpSet.newSet_ok (newEnv_comp ?_)
  generalize hD : s2.heap.objs.size = D
  have dNone : H2 D = none := I2.hok.fresh (Nat.le_of_eq hD)
  obtain ⟨Wh, ⟨m0, start⟩, turn⟩ := q D dNone
  -- behind the making of the set
  generalize hs3 : ({ s2 with heap := s2.heap.push { cls := .type "set", dict := none, data := .set #[] 0 (.fresh 0 0 (!X.w.params.followText "set-order")) } } : Shared) = s3
  have heap3 : s3.heap = s2.heap.push { cls := .type "set", dict := none, data := .set #[] 0 (.fresh 0 0 (!X.w.params.followText "set-order")) } := by rw [← hs3]
  generalize hG : upd H2 D (GO X.prog X.w D []) = G at start
  have I3 : Inv X pins σ G s3 := by
    rw [← hG, ← hs3]
    refine I2.laid (t' := s2.toks) (fun b o e => Heap.get?_push_of_some _ e) (Nat.le_of_eq hD) (go_ok (oneG_new ?_))
    rw [← hD]
    exact Heap.get?_push_size _ rfl
  have small : ∀ b ∈ fp, b < D := fun b hb => by
    obtain ⟨o, e, _⟩ := T.obj _ _ here b hb
    rw [← hD]
    exact Heap.lt_size e
  have apart3 : ∀ b ∈ fp, FpOk X pins G b ∧ b < s3.heap.objs.size := fun b hb => by
    have lt := small b hb
    refine ⟨⟨?_, (apart b hb).2⟩, by rw [heap3, Heap.size_push, hD]; exact Nat.lt_succ_of_lt lt⟩
    rw [← hG, upd_ne (Nat.ne_of_lt lt)]
    exact (apart b hb).1
  have here3 : tn 0 s3.heap := T.keep _ _ _ here fun b _ o e => by rw [heap3]; exact Heap.get?_push_of_some _ e
  have I4 := block_start I3 ok hN apart3
  obtain ⟨cs, hcs⟩ : ∃ cs, cellsFrom (s3.heap.objs.size + 1) scope.names (cloFrom X.env.cells scope.names []) = cs := ⟨_, rfl⟩
  rw [hcs] at I4 ⊢
  have pg := hg s3 G s3.heap.objs.size cs fp
  have pe := he s3 G s3.heap.objs.size cs fp
  have out0 : ∀ b ∈ fp, G b = none := fun b hb => (apart3 b hb).1.1
  show codeAny _ _ (.compStart (.SetComp elt [⟨tg, iter, [], 0⟩] scope pos) 0 (.ref it) (.ref D) (compEnvC scope cs s3.heap.objs.size X.env)) (compPost (model X.prog X.w) X.A X.xe none (EP X pins σ Q) (.ref D) s3.heap.objs.size) { s3 with heap := pushCells (s3.heap.push { cls := .type "dict", data := .dict #[] }) scope.names }
  generalize hs4 : ({ s3 with heap := pushCells (s3.heap.push { cls := .type "dict", data := .dict #[] }) scope.names } : Shared) = s4 at I4 ⊢
  have here4 : tn 0 s4.heap := T.keep _ _ _ here3 fun b _ o e => by rw [← hs4]; exact pushCells_keeps _ _ _ _ (Heap.get?_push_of_some _ e)
  obtain ⟨en, hen⟩ : ∃ en, compEnvC scope cs s3.heap.objs.size X.env = en := ⟨_, rfl⟩
  have loc : en.locals = s3.heap.objs.size := by rw [← hen]; rfl
  rw [hen] at I4 pg pe ⊢
  have inside : ∀ {σ' : L2.St} {H' : Hp} {s' : Shared}, Inv (X.blk s3 G scope en fp) [] σ' H' s' → (∀ b ∈ fp, H' b = none) → ∀ b ∈ fp, FpOk (X.blk s3 G scope en fp) [] H' b := fun I' o b hb =>
    ⟨o b hb, (I'.ok.exf b hb).1, I'.ok.exfs b hb, .inl hb, fun x c e => (I'.ok.exf b hb).2 x c e, fun p hp => absurd (show p ∈ ([] : List (Addr × Obj)) ++ [] from hp) (by simp)⟩
  have round : codeAny (model X.prog X.w) X.A (.compLoop (.SetComp elt [⟨tg, iter, [], 0⟩] scope pos) 0 (.ref it) (.ref D) en) (compPost (model X.prog X.w) X.A X.xe none (EP X pins σ Q) (.ref D) s3.heap.objs.size) s4 := by
    refine PpSet.compLoopS_any (fun n s' => ∃ i H', Fram X (X.blk s3 G scope en fp) fp tn (wipe σ (own.map (·.2))) i H' s' ∧ Wh i n H') ?_ m0 ⟨0, G, ⟨I4, here4, out0⟩, start⟩
    rintro n s5 ⟨i, H5, Fr, wh⟩
    rcases turn i n H5 wh with ⟨stop, last⟩ | ⟨go, On, hOn, step⟩
    · refine thnF (T.done (X.blk s3 G scope en fp) rfl rfl rfl hc i [] s5 _ H5 (fun _ _ => False) Fr.iv (inside Fr.iv Fr.out) Fr.at_ stop) fun r s6 ⟨hr, I6⟩ => ?_
      subst hr
      have back : Inv X pins σ H5 s6 := I3.call' (ch := fp) I6.os I6.base I6.hok I6.bare fun b hb => ⟨(apart3 b hb).1.2.2.2.1, (apart3 b hb).1.2.1, (apart3 b hb).1.2.2.2.2.1, (apart3 b hb).1.2.2.2.2.2⟩
      have free : H5 s3.heap.objs.size = none := by rw [← loc]; exact I6.free
      obtain ⟨ns, hns, _⟩ := I6.loc
      have hns : s6.heap.Ns en.locals ns := hns
      rw [loc] at hns
      obtain ⟨f0, f1, f2, f3, f4, f5⟩ := I3.fpOk (Nat.le_refl _) free
      exact ⟨ns, hns, fun h' sb => ⟨.ref D, H5, back.turned (t' := s6.toks) (fun b o hb e => (sb.2 b hb).trans e) f0 f1 f3 f4 f5, rfl, last⟩⟩
    · refine thnF (T.item (X.blk s3 G scope en fp) rfl rfl rfl hc i [] s5 _ H5 (fun _ _ => False) Fr.iv (inside Fr.iv Fr.out) Fr.at_ go) fun r s6 ⟨u, hr, h6⟩ => ?_
      subst hr
      refine thnF h6 fun _ s7 ⟨x, H7, I7, r7, y7, at7, out7⟩ => ?_
      refine thnF (pg.run _ s7 _ H7 x u _ (I7.pinned (inside I7 out7) (T.obj _ _ at7)) r7 (step x H7 y7)) fun _ s8 ⟨σ8, H8, I8, same, q8⟩ => ?_
      refine wpAny_pure ?_
      refine thnF (pe.run _ s8 σ8 H8 _ I8 q8) fun z s9 ⟨yv, H9, I9, r9, b, k, L, ey, hb, hset, hL, lim, next⟩ => ?_
      subst ey
      cases r9
      refine track_add (X := X.blk s3 G scope en fp) I9 hu hset hL hb lim fun L' s10 c1 c2 I10 => ?_
      obtain ⟨m', lt, wh'⟩ := hOn _ (next L' c1 c2)
      have kept : ∀ a ∈ fp, ∀ o, s7.heap.get? a = some o → s10.heap.get? a = some o ∧ upd H9 D (GO X.prog X.w D L') a = none := fun a ha o e =>
        let z := I10.pin (a, o) (List.mem_append_right _ (List.mem_append_right _ (mem_pinsAt ha e)))
        ⟨z.1, z.2.1⟩
      refine ⟨m', lt, i + 1, _, ⟨(I10.unpinned (pins := [])).weak (by rw [← same, wipe_length]) (fun j v e => ?_), T.keep _ _ _ at7 fun a ha o e => (kept a ha o e).1, fun a ha => ?_⟩, wh'⟩
      · rw [← same] at e
        exact (wipe_some e).1
      · obtain ⟨o, e, _⟩ := T.obj _ _ at7 a ha
        exact (kept a ha o e).2
  exact PpSet.codeAny_compStart_set round (T.self X.A 0 _ _ _ here4 round)
end
end S

set_option Elab.async false
set_option linter.all false
set_option maxRecDepth 100000
set_option maxHeartbeats 1000000
/-! Data, environments, and the meaning of expressions as functions on them. -/
namespace Z
open PySem PySem.Spec PyProof.Rows L2

/-- a value as data: what it is, without the heap -/
inductive D where
  | non | bl (b : Bool) | int (i : Int) | str (s : Str) | ty (n : String)
  | tup (ds : List D) | lst (ds : List D)
  | scr (ns : List Int)
  | ptup (ds : List D)
  | dk (ks : List Key) (ds : List D) | dt (ks : List (List Key)) (ds : List D)
  | obj (c : Str) (ns : List Str) (ds : List D)

abbrev Le (F H : Hp) : Prop := ∀ (a : Addr) (o : HO), F a = some o → H a = some o
theorem Le.refl (F : Hp) : Le F F := fun _ _ h => h
theorem Le.trans {F G H : Hp} (a : Le F G) (b : Le G H) : Le F H := fun x o h => b x o (a x o h)
theorem Le.new {F H : Hp} {p : Addr} {o : HO} (a : Le F H) (h : H p = none) : Le F (upd H p o) := fun b u e => by
  rw [upd_ne (ne_of_none (a b u e) h)]; exact a b u e
theorem Le.fresh {F H : Hp} {p : Addr} (a : Le F H) (h : H p = none) : F p = none := by
  cases e : F p with
  | none => rfl
  | some o => rw [a p o e] at h; cases h
theorem Le.put {F : Hp} {p : Addr} {o : HO} (h : F p = none) : Le F (upd F p o) := Le.new (Le.refl F) h
theorem Le.both {F H : Hp} {p : Addr} {o : HO} (a : Le F H) : Le (upd F p o) (upd H p o) := fun b u e => by
  unfold upd at e ⊢
  split
  · rename_i hb; rw [if_pos hb] at e; exact e
  · rename_i hb; rw [if_neg hb] at e; exact a b u e
/-- F grows at a place where H stands -/
theorem Le.into {F H : Hp} {p : Addr} {o : HO} (a : Le F H) (h : H p = some o) : Le (upd F p o) H := fun b u e => by
  unfold upd at e
  split at e
  · rename_i hb; subst hb; rw [h]; exact e
  · exact a b u e

section
variable (K : PySem.W.Frag) (cl : Str → Addr)
mutual
inductive At : Hp → V → D → Prop
  | non {F} : At F .non .non
  | bl {F} (b : Bool) : At F (.bl b) (.bl b)
  | int {F} (i : Int) : At F (.int i) (.int i)
  | str {F} (x : Str) : At F (.str x) (.str x)
  | ty {F} (n : String) : At F (.ty n) (.ty n)
  | tup {F} {a : Addr} {vs : List V} {ds : List D} : F a = some (.tup vs) → AtAll F vs ds → At F (.ref a) (.tup ds)
  | lst {F} {a : Addr} {vs : List V} {ds : List D} : F a = some (.lst vs) → AtAll F vs ds → At F (.ref a) (.lst ds)
  | scr {F} {a : Addr} {ns : List Int} : SqL K F a (ns.map V.int) → At F (.ref a) (.scr ns)
  | ptup {F} {a : Addr} {vs : List V} {ds : List D} {o : PySem.Obj} : F a = some (.frz o (.tup vs)) → o.dict = none → AtAll F vs ds → At F (.ref a) (.ptup ds)
  | dk {F} {a : Addr} {ks : List Key} {vs : List V} {ds : List D} : F a = some (.dK (ks.zip vs)) → ks.length = vs.length → AtAll F vs ds → At F (.ref a) (.dk ks ds)
  | dt {F} {a : Addr} {ks : List (List Key)} {vs : List V} {ds : List D} : F a = some (.dT (ks.zip vs)) → ks.length = vs.length → AtAll F vs ds → At F (.ref a) (.dt ks ds)
  | obj {F} {a dx : Addr} {c : Str} {ns : List Str} {vs : List V} {ds : List D} : F a = some (.ins (cl c) dx (ns.zip vs)) → ns.length = vs.length → AtAll F vs ds → At F (.ref a) (.obj c ns ds)
inductive AtAll : Hp → List V → List D → Prop
  | nil {F} : AtAll F [] []
  | cons {F} {v : V} {vs : List V} {d : D} {ds : List D} : At F v d → AtAll F vs ds → AtAll F (v :: vs) (d :: ds)
end
end

section
variable {K : PySem.W.Frag} {cl : Str → Addr}
theorem seq_le {F H : Hp} {a : Addr} {xs : List V} (e : Le F H) (h : SqL K F a xs) : SqL K H a xs := by
  rcases h with (h | ⟨o, h⟩) | h
  · exact .inl (.inl (e _ _ h))
  · exact .inl (.inr ⟨o, e _ _ h⟩)
  · exact .inr h
mutual
theorem At.mono {F H : Hp} (e : Le F H) : ∀ {v : V} {d : D}, At K cl F v d → At K cl H v d
  | _, _, .non => .non
  | _, _, .bl b => .bl b
  | _, _, .int i => .int i
  | _, _, .str x => .str x
  | _, _, .ty n => .ty n
  | _, _, .tup h a => .tup (e _ _ h) (AtAll.mono e a)
  | _, _, .lst h a => .lst (e _ _ h) (AtAll.mono e a)
  | _, _, .scr h => .scr (seq_le e h)
  | _, _, .ptup h d a => .ptup (e _ _ h) d (AtAll.mono e a)
  | _, _, .dk h l a => .dk (e _ _ h) l (AtAll.mono e a)
  | _, _, .dt h l a => .dt (e _ _ h) l (AtAll.mono e a)
  | _, _, .obj h l a => .obj (e _ _ h) l (AtAll.mono e a)
theorem AtAll.mono {F H : Hp} (e : Le F H) : ∀ {vs : List V} {ds : List D}, AtAll K cl F vs ds → AtAll K cl H vs ds
  | _, _, .nil => .nil
  | _, _, .cons h t => .cons (At.mono e h) (AtAll.mono e t)
end
theorem AtAll.length : ∀ {F : Hp} {vs : List V} {ds : List D}, AtAll K cl F vs ds → vs.length = ds.length
  | _, _, _, .nil => rfl
  | _, _, _, .cons _ t => by simp [AtAll.length t]
theorem AtAll.get : ∀ {F : Hp} {vs : List V} {ds : List D} {i : Nat} {d : D}, AtAll K cl F vs ds → ds[i]? = some d → ∃ v, vs[i]? = some v ∧ At K cl F v d
  | _, _, _, _, _, .nil, e => by simp at e
  | _, _, _, 0, _, .cons h _, e => by simp at e; subst e; exact ⟨_, rfl, h⟩
  | _, _, _, i + 1, _, .cons _ t, e => by
    obtain ⟨v, h1, h2⟩ := AtAll.get (i := i) t (by simpa using e)
    exact ⟨v, by simpa using h1, h2⟩
theorem AtAll.getV : ∀ {F : Hp} {vs : List V} {ds : List D} {i : Nat} {v : V}, AtAll K cl F vs ds → vs[i]? = some v → ∃ d, ds[i]? = some d ∧ At K cl F v d
  | _, _, _, _, _, .nil, e => by simp at e
  | _, _, _, 0, _, .cons h _, e => by simp at e; subst e; exact ⟨_, rfl, h⟩
  | _, _, _, i + 1, _, .cons _ t, e => by
    obtain ⟨v, h1, h2⟩ := AtAll.getV (i := i) t (by simpa using e)
    exact ⟨v, by simpa using h1, h2⟩
theorem AtAll.append : ∀ {F : Hp} {vs ws : List V} {ds es : List D}, AtAll K cl F vs ds → AtAll K cl F ws es → AtAll K cl F (vs ++ ws) (ds ++ es)
  | _, _, _, _, _, .nil, s => s
  | _, _, _, _, _, .cons r t, s => .cons r (AtAll.append t s)
theorem AtAll.take : ∀ {F : Hp} {vs : List V} {ds : List D} (n : Nat), AtAll K cl F vs ds → AtAll K cl F (vs.take n) (ds.take n)
  | _, _, _, 0, _ => .nil
  | _, _, _, _ + 1, .nil => .nil
  | _, _, _, n + 1, .cons r t => .cons r (AtAll.take n t)
theorem AtAll.drop : ∀ {F : Hp} {vs : List V} {ds : List D} (n : Nat), AtAll K cl F vs ds → AtAll K cl F (vs.drop n) (ds.drop n)
  | _, _, _, 0, r => r
  | _, _, _, _ + 1, .nil => .nil
  | _, _, _, n + 1, .cons _ t => AtAll.drop n t
theorem AtAll.set {F : Hp} {v : V} {d : D} (r : At K cl F v d) : ∀ {vs : List V} {ds : List D} (i : Nat), AtAll K cl F vs ds → AtAll K cl F (vs.set i v) (ds.set i d)
  | _, _, _, .nil => .nil
  | _, _, 0, .cons _ t => .cons r t
  | _, _, i + 1, .cons q t => .cons q (AtAll.set r i t)
theorem AtAll.eraseIdx : ∀ {F : Hp} {vs : List V} {ds : List D} (i : Nat), AtAll K cl F vs ds → AtAll K cl F (vs.eraseIdx i) (ds.eraseIdx i)
  | _, _, _, _, .nil => .nil
  | _, _, _, 0, .cons _ t => t
  | _, _, _, i + 1, .cons r t => .cons r (AtAll.eraseIdx i t)
theorem AtAll.reverse {F : Hp} {vs : List V} {ds : List D} (h : AtAll K cl F vs ds) : AtAll K cl F vs.reverse ds.reverse := by
  induction vs generalizing ds with
  | nil => cases h; exact .nil
  | cons v vs ih => cases h with | cons a b => rw [List.reverse_cons, List.reverse_cons]; exact (ih b).append (.cons a .nil)
theorem AtAll.rep {F : Hp} {vs : List V} {ds : List D} (h : AtAll K cl F vs ds) : ∀ k : Nat, AtAll K cl F (List.replicate k vs).flatten (List.replicate k ds).flatten
  | 0 => .nil
  | k + 1 => by rw [List.replicate_succ, List.replicate_succ, List.flatten_cons, List.flatten_cons]; exact h.append (AtAll.rep h k)
theorem AtAll.ints : ∀ {F : Hp} (ns : List Int), AtAll K cl F (ns.map V.int) (ns.map D.int)
  | _, [] => .nil
  | _, n :: r => .cons (.int n) (AtAll.ints r)

/-! ### containers that one def alone holds, and that it may change -/
inductive OC where
  | lst (ds : List D)
  | dct (ks : List (List Key)) (ds : List D)
def OC.d : OC → D
  | .lst ds => .lst ds
  | .dct ks ds => .dt ks ds
def OwnAt (K : PySem.W.Frag) (cl : Str → Addr) (F H : Hp) (a : Addr) : OC → Prop
  | .lst ds => ∃ vs, H a = some (.lst vs) ∧ AtAll K cl F vs ds
  | .dct ks ds => ∃ vs, H a = some (.dT (ks.zip vs)) ∧ ks.length = vs.length ∧ AtAll K cl F vs ds
theorem OwnAt.mono {F F' H H' : Hp} {a : Addr} {o : OC} (e : Le F F') (k : H' a = H a) (h : OwnAt K cl F H a o) : OwnAt K cl F' H' a o := by
  cases o with
  | lst ds => obtain ⟨vs, h1, h2⟩ := h; exact ⟨vs, k.trans h1, h2.mono e⟩
  | dct ks ds => obtain ⟨vs, h1, h2, h3⟩ := h; exact ⟨vs, k.trans h1, h2, h3.mono e⟩
theorem OwnAt.has {F H : Hp} {a : Addr} {o : OC} (h : OwnAt K cl F H a o) : ∃ ob, H a = some ob := by
  cases o with
  | lst ds => obtain ⟨vs, h1, h2⟩ := h; exact ⟨_, h1⟩
  | dct ks ds => obtain ⟨vs, h1, h2, h3⟩ := h; exact ⟨_, h1⟩
theorem OwnAt.freeze {F H : Hp} {a : Addr} {o : OC} {ob : HO} (hF : F a = none) (e : H a = some ob) (h : OwnAt K cl F H a o) : At K cl (upd F a ob) (.ref a) o.d := by
  cases o with
  | lst ds => obtain ⟨vs, h1, h2⟩ := h; rw [h1] at e; cases e; exact .lst upd_same (h2.mono (Le.put hF))
  | dct ks ds => obtain ⟨vs, h1, h2, h3⟩ := h; rw [h1] at e; cases e; exact .dt upd_same h2 (h3.mono (Le.put hF))
/-- what may be read now: the thing itself in the heap as it stands, what is in it is frozen -/
def AtT (K : PySem.W.Frag) (cl : Str → Addr) (F H : Hp) (v : V) : D → Prop
  | .lst ds => ∃ a vs, v = .ref a ∧ H a = some (.lst vs) ∧ AtAll K cl F vs ds
  | .dt ks ds => ∃ a vs, v = .ref a ∧ H a = some (.dT (ks.zip vs)) ∧ ks.length = vs.length ∧ AtAll K cl F vs ds
  | d => At K cl F v d
theorem AtT.of {F H : Hp} {v : V} {d : D} (e : Le F H) (h : At K cl F v d) : AtT K cl F H v d := by
  cases h with
  | lst h1 h2 => exact ⟨_, _, rfl, e _ _ h1, h2⟩
  | dt h1 h2 h3 => exact ⟨_, _, rfl, e _ _ h1, h2, h3⟩
  | non => exact .non
  | bl b => exact .bl b
  | int i => exact .int i
  | str x => exact .str x
  | ty n => exact .ty n
  | tup h1 h2 => exact .tup h1 h2
  | scr h1 => exact .scr h1
  | ptup h1 h2 h3 => exact .ptup h1 h2 h3
  | dk h1 h2 h3 => exact .dk h1 h2 h3
  | obj h1 h2 h3 => exact .obj h1 h2 h3
theorem AtT.own {F H : Hp} {a : Addr} {o : OC} (h : OwnAt K cl F H a o) : AtT K cl F H (.ref a) o.d := by
  cases o with
  | lst ds => obtain ⟨vs, h1, h2⟩ := h; exact ⟨_, _, rfl, h1, h2⟩
  | dct ks ds => obtain ⟨vs, h1, h2, h3⟩ := h; exact ⟨_, _, rfl, h1, h2, h3⟩
theorem AtT.now {F H : Hp} {v : V} {d : D} (e : Le F H) (h : AtT K cl F H v d) : At K cl H v d := by
  cases d with
  | lst ds => obtain ⟨a, vs, rfl, h1, h2⟩ := h; exact .lst h1 (h2.mono e)
  | dt ks ds => obtain ⟨a, vs, rfl, h1, h2, h3⟩ := h; exact .dt h1 h2 (h3.mono e)
  | _ => exact At.mono e h

/-! ### environments -/
/-- a field of an instance that is being made: data; the container in slot g -/
inductive Fv where
  | dat (d : D)
  | lnk (g : Nat)
inductive Sl where
  | dat (d : D)
  | own (o : OC)
  | par (o : OC)
  | slf (c : Str) (ns : List Str) (fs : List Fv)
def FvAt (K : PySem.W.Frag) (cl : Str → Addr) (pa : Nat → Addr) (F : Hp) (v : V) : Fv → Prop
  | .dat d => At K cl F v d
  | .lnk g => v = .ref (pa g)
theorem FvAt.mono {pa : Nat → Addr} {F F' : Hp} {v : V} {f : Fv} (e : Le F F') (h : FvAt K cl pa F v f) : FvAt K cl pa F' v f := by
  cases f with
  | dat d => exact At.mono e h
  | lnk g => exact h
theorem FvAll_mono {pa : Nat → Addr} {F F' : Hp} (e : Le F F') : ∀ {vs : List V} {fs : List Fv}, Paired (FvAt K cl pa F) vs fs → Paired (FvAt K cl pa F') vs fs
  | _, _, .nil => .nil
  | _, _, .cons h t => .cons (h.mono e) (FvAll_mono e t)
def SlfOk (K : PySem.W.Frag) (cl : Str → Addr) (pa : Nat → Addr) (F R : Hp) (σ : L2.St) (i : Nat) (c : Str) (ns : List Str) (fs : List Fv) : Prop :=
  σ[i]? = some (some (.ref (pa i))) ∧ ∃ dx vs, R (pa i) = some (.ins (cl c) dx (ns.zip vs)) ∧ ns.length = vs.length ∧ Paired (FvAt K cl pa F) vs fs
theorem SlfOk.mono {pa : Nat → Addr} {F F' R R' : Hp} {σ : L2.St} {i : Nat} {c : Str} {ns : List Str} {fs : List Fv} (e : Le F F') (r : Le R R') (h : SlfOk K cl pa F R σ i c ns fs) : SlfOk K cl pa F' R' σ i c ns fs := by
  obtain ⟨h1, dx, vs, h2, h3, h4⟩ := h
  exact ⟨h1, dx, vs, r _ _ h2, h3, FvAll_mono e h4⟩
abbrev En := List (Option Sl)
def ocOf (env : En) (i : Nat) : Option OC := match env[i]? with
  | some (some (.own o)) => some o
  | some (some (.par o)) => some o
  | _ => none
/-- the result of an expression: data; what slot i holds; a new container that nobody else holds -/
inductive Rv where
  | dat (d : D)
  | slot (i : Nat)
  | own (o : OC)

/-- what is aside is not frozen, tuples excepted -/
def Dj (R F : Hp) : Prop := ∀ (a : Addr) (o : HO), R a = some o → F a = none ∨ ∃ xs, o = .tup xs
theorem Dj.out {R F : Hp} {a : Addr} {o : HO} (h : Dj R F) (e : R a = some o) (n : ∀ xs, o ≠ .tup xs) : F a = none := (h a o e).elim id fun ⟨xs, z⟩ => absurd z (n xs)
structure RS (K : PySem.W.Frag) (cl : Str → Addr) (pa : Nat → Addr) (F R H : Hp) (σ : L2.St) (ad : Nat → Addr) (env : En) : Prop where
  fh : Le F H
  rh : Le R H
  len : env.length = σ.length
  dat : ∀ (i : Nat) (d : D), env[i]? = some (some (Sl.dat d)) → ∃ v, σ[i]? = some (some v) ∧ At K cl F v d
  oc : ∀ (i : Nat) (o : OC), ocOf env i = some o → σ[i]? = some (some (.ref (ad i))) ∧ F (ad i) = none ∧ R (ad i) = none ∧ OwnAt K cl F H (ad i) o
  ne : ∀ (i j : Nat), i ≠ j → (ocOf env i).isSome = true → (ocOf env j).isSome = true → ad i ≠ ad j
  par : ∀ (i : Nat) (o : OC), env[i]? = some (some (Sl.par o)) → ad i = pa i
  dj : Dj R F
  slf : ∀ (i : Nat) (c : Str) (ns : List Str) (fs : List Fv), env[i]? = some (some (Sl.slf c ns fs)) → SlfOk K cl pa F R σ i c ns fs

def RvAt (K : PySem.W.Frag) (cl : Str → Addr) (F R H : Hp) (σ : L2.St) (ad : Nat → Addr) (env : En) (v : V) : Rv → Prop
  | .dat d => At K cl F v d
  | .slot i => σ[i]? = some (some v)
  | .own o => ∃ a, v = .ref a ∧ F a = none ∧ R a = none ∧ OwnAt K cl F H a o ∧ ∀ j, (ocOf env j).isSome = true → ad j ≠ a
/-- what lives on while other things are reckoned -/
def RvF (K : PySem.W.Frag) (cl : Str → Addr) (F : Hp) (σ : L2.St) (v : V) : Rv → Prop
  | .dat d => At K cl F v d
  | .slot i => σ[i]? = some (some v)
  | .own _ => False
def fz : Rv → Rv
  | .own o => .dat o.d
  | r => r
def rdS (env : En) (i : Nat) : Option D := match env[i]? with
  | some (some (.dat d)) => some d
  | some (some (.own o)) => some o.d
  | some (some (.par o)) => some o.d
  | _ => none
def rd (env : En) : Rv → Option D
  | .dat d => some d
  | .own o => some o.d
  | .slot i => rdS env i
/-- to keep a value: a container that a slot holds is frozen -/
def kpS (env : En) (i : Nat) : Option (D × En) := match env[i]? with
  | some (some (.dat d)) => some (d, env)
  | some (some (.own o)) => some (o.d, env.set i (some (.dat o.d)))
  | _ => none
def kp (env : En) : Rv → Option (D × En)
  | .dat d => some (d, env)
  | .own o => some (o.d, env)
  | .slot i => kpS env i

variable {pa : Nat → Addr} {F F' R H H' : Hp} {σ : L2.St} {ad : Nat → Addr} {env : En}
theorem oc_own {i : Nat} {o : OC} (h : env[i]? = some (some (.own o))) : ocOf env i = some o := by unfold ocOf; rw [h]
theorem oc_par {i : Nat} {o : OC} (h : env[i]? = some (some (.par o))) : ocOf env i = some o := by unfold ocOf; rw [h]
theorem oc_dat {i : Nat} {d : D} (h : env[i]? = some (some (.dat d))) : ocOf env i = none := by unfold ocOf; rw [h]
theorem oc_set_ne {i j : Nat} {s : Option Sl} (h : i ≠ j) : ocOf (env.set i s) j = ocOf env j := by unfold ocOf; rw [List.getElem?_set_ne h]

/-- H grows at a new place; F perhaps too -/
inductive Grow (F H : Hp) : Hp → Hp → Prop
  | no : Grow F H F H
  | fr (p : Addr) (o : HO) : H p = none → Grow F H (upd F p o) (upd H p o)
  /-- a tuple that is there already -/
  | kn (p : Addr) (xs : List V) : H p = some (.tup xs) → F p = none → Grow F H (upd F p (.tup xs)) H
theorem Grow.le (g : Grow F H F' H') (e : Le F H) : Le F F' := by
  cases g with
  | no => exact Le.refl _
  | fr p o h => exact Le.put (e.fresh h)
  | kn p xs h h0 => exact Le.put h0
theorem RS.newAt {p : Addr} {o : HO} (S : RS K cl pa F R H σ ad env) (h : H p = none) : RS K cl pa F R (upd H p o) σ ad env where
  fh := S.fh.new h
  rh := S.rh.new h
  len := S.len
  dat := S.dat
  oc := fun i u e => by
    obtain ⟨h1, h2, h3, h4⟩ := S.oc i u e
    refine ⟨h1, h2, h3, h4.mono (Le.refl _) ?_⟩
    obtain ⟨ob, hb⟩ := h4.has
    rw [upd_ne (ne_of_none hb h)]
  ne := S.ne
  par := S.par
  dj := S.dj
  slf := S.slf
theorem RS.grow (S : RS K cl pa F R H σ ad env) (g : Grow F H F' H') : RS K cl pa F' R H' σ ad env := by
  cases g with
  | no => exact S
  | fr p o h =>
    have S1 := S.newAt (o := o) h
    refine ⟨S.fh.both, S1.rh, S.len, fun i d e => ?_, fun i u e => ?_, S.ne, S.par, fun b u e => by rw [upd_ne (ne_of_none (S.rh b u e) h)]; exact S.dj b u e, fun i c ns fs e => (S.slf i c ns fs e).mono (Le.put (S.fh.fresh h)) (Le.refl _)⟩
    · obtain ⟨v, h1, h2⟩ := S.dat i d e
      exact ⟨v, h1, h2.mono (Le.put (S.fh.fresh h))⟩
    · obtain ⟨h1, h2, h3, h4⟩ := S1.oc i u e
      obtain ⟨_, _, _, h5⟩ := S.oc i u e
      obtain ⟨ob, hb⟩ := h5.has
      exact ⟨h1, by rw [upd_ne (ne_of_none hb h)]; exact h2, h3, h4.mono (Le.put (S.fh.fresh h)) rfl⟩
  | kn p xs h h0 =>
    refine ⟨S.fh.into h, S.rh, S.len, fun i d e => ?_, fun i u e => ?_, S.ne, S.par, fun b u e => ?_, fun i c ns fs e => (S.slf i c ns fs e).mono (Le.put h0) (Le.refl _)⟩
    · obtain ⟨v, h1, h2⟩ := S.dat i d e
      exact ⟨v, h1, h2.mono (Le.put h0)⟩
    · obtain ⟨h1, h2, h3, h4⟩ := S.oc i u e
      have hne : ad i ≠ p := fun z => by
        rw [z] at h4
        cases u with
        | lst ds => obtain ⟨vs, q, _⟩ := h4; rw [h] at q; cases q
        | dct ks ds => obtain ⟨vs, q, _⟩ := h4; rw [h] at q; cases q
      exact ⟨h1, by rw [upd_ne hne]; exact h2, h3, h4.mono (Le.put h0) rfl⟩
    · by_cases z : b = p
      · subst z
        have := S.rh _ _ e
        rw [h] at this
        cases this
        exact .inr ⟨xs, rfl⟩
      · rw [upd_ne z]; exact S.dj b u e
theorem RvF.mono {v : V} {r : Rv} (e : Le F F') (h : RvF K cl F σ v r) : RvF K cl F' σ v r := by
  cases r with
  | dat d => exact At.mono e h
  | slot i => exact h
  | own o => exact h
/-- a new container is frozen at need -/
theorem RS.fzz {v : V} {r : Rv} (S : RS K cl pa F R H σ ad env) (h : RvAt K cl F R H σ ad env v r) : ∃ F', Le F F' ∧ RS K cl pa F' R H σ ad env ∧ RvF K cl F' σ v (fz r) := by
  cases r with
  | dat d => exact ⟨F, Le.refl _, S, h⟩
  | slot i => exact ⟨F, Le.refl _, S, h⟩
  | own o =>
    obtain ⟨a, rfl, h1, h2, h3, h4⟩ := h
    obtain ⟨ob, hb⟩ := h3.has
    refine ⟨upd F a ob, Le.put h1, ⟨S.fh.into hb, S.rh, S.len, fun i d e => ?_, fun i u e => ?_, S.ne, S.par, fun b u e => by rw [upd_ne (fun z => by subst z; rw [h2] at e; cases e)]; exact S.dj b u e, fun i c ns fs e => (S.slf i c ns fs e).mono (Le.put h1) (Le.refl _)⟩, h3.freeze h1 hb⟩
    · obtain ⟨v, q1, q2⟩ := S.dat i d e
      exact ⟨v, q1, q2.mono (Le.put h1)⟩
    · obtain ⟨q1, q2, q3, q4⟩ := S.oc i u e
      exact ⟨q1, by rw [upd_ne (h4 i (by rw [e]; rfl))]; exact q2, q3, q4.mono (Le.put h1) rfl⟩
theorem RS.read {v : V} {r : Rv} {d : D} (S : RS K cl pa F R H σ ad env) (h : RvF K cl F σ v r) (e : rd env r = some d) : AtT K cl F H v d := by
  cases r with
  | dat d' => cases e; exact AtT.of S.fh h
  | own o => exact h.elim
  | slot i =>
    change rdS env i = some d at e
    unfold rdS at e
    split at e
    · rename_i heq
      rename_i d'; cases e
      obtain ⟨v', q1, q2⟩ := S.dat i _ heq
      have : v' = v := by rw [show σ[i]? = some (some v) from h] at q1; cases q1; rfl
      subst this
      exact AtT.of S.fh q2
    · rename_i o heq
      cases e
      obtain ⟨q1, q2, q3, q4⟩ := S.oc i o (oc_own heq)
      have : V.ref (ad i) = v := by rw [show σ[i]? = some (some v) from h] at q1; cases q1; rfl
      subst this
      exact AtT.own q4
    · rename_i o heq
      cases e
      obtain ⟨q1, q2, q3, q4⟩ := S.oc i o (oc_par heq)
      have : V.ref (ad i) = v := by rw [show σ[i]? = some (some v) from h] at q1; cases q1; rfl
      subst this
      exact AtT.own q4
    · cases e
theorem set_get_self {α : Type} {l : List α} {i : Nat} {a b : α} (h : l[i]? = some b) : (l.set i a)[i]? = some a := by
  have := (List.getElem?_eq_some_iff.mp h).1
  simp [List.getElem?_set, this]
/-- the container that slot i holds is frozen -/
theorem RS.freeze {i : Nat} {o : OC} (S : RS K cl pa F R H σ ad env) (h : env[i]? = some (some (.own o))) :
    ∃ F', Le F F' ∧ RS K cl pa F' R H σ ad (env.set i (some (.dat o.d))) ∧ At K cl F' (.ref (ad i)) o.d := by
  obtain ⟨q1, q2, q3, q4⟩ := S.oc i o (oc_own h)
  obtain ⟨ob, hb⟩ := q4.has
  have hA : At K cl (upd F (ad i) ob) (.ref (ad i)) o.d := q4.freeze q2 hb
  have hoc : ocOf (env.set i (some (Sl.dat o.d))) i = none := oc_dat (set_get_self h)
  refine ⟨upd F (ad i) ob, Le.put q2, ⟨S.fh.into hb, S.rh, by rw [List.length_set]; exact S.len, fun j d e => ?_, fun j u e => ?_, fun j k hjk hj hk => ?_, fun j u e => ?_, fun b u e => by rw [upd_ne (fun z => by subst z; rw [q3] at e; cases e)]; exact S.dj b u e, fun j c ns fs e => ?_⟩, hA⟩
  · by_cases hj : i = j
    · subst hj
      rw [set_get_self h] at e
      cases e
      exact ⟨_, q1, hA⟩
    · rw [List.getElem?_set_ne hj] at e
      obtain ⟨v, r1, r2⟩ := S.dat j d e
      exact ⟨v, r1, r2.mono (Le.put q2)⟩
  · by_cases hj : i = j
    · subst hj; rw [hoc] at e; cases e
    · rw [oc_set_ne hj] at e
      obtain ⟨r1, r2, r3, r4⟩ := S.oc j u e
      have hn : ad j ≠ ad i := S.ne j i (Ne.symm hj) (by rw [e]; rfl) (by rw [oc_own h]; rfl)
      exact ⟨r1, by rw [upd_ne hn]; exact r2, r3, r4.mono (Le.put q2) rfl⟩
  · have hj' : i ≠ j := fun z => by subst z; rw [hoc] at hj; cases hj
    have hk' : i ≠ k := fun z => by subst z; rw [hoc] at hk; cases hk
    rw [oc_set_ne hj'] at hj
    rw [oc_set_ne hk'] at hk
    exact S.ne j k hjk hj hk
  · by_cases hj : i = j
    · subst hj; rw [set_get_self h] at e; cases e
    · rw [List.getElem?_set_ne hj] at e; exact S.par j u e
  · by_cases hj : i = j
    · subst hj; rw [set_get_self h] at e; cases e
    · rw [List.getElem?_set_ne hj] at e; exact (S.slf j c ns fs e).mono (Le.put q2) (Le.refl _)
theorem RS.keep {v : V} {r : Rv} {d : D} {env' : En} (S : RS K cl pa F R H σ ad env) (h : RvF K cl F σ v r) (e : kp env r = some (d, env')) : ∃ F', Le F F' ∧ RS K cl pa F' R H σ ad env' ∧ At K cl F' v d := by
  cases r with
  | dat d' => cases e; exact ⟨F, Le.refl _, S, h⟩
  | own o => exact h.elim
  | slot i =>
    change kpS env i = some (d, env') at e
    unfold kpS at e
    split at e
    · rename_i heq
      cases e
      obtain ⟨v', q1, q2⟩ := S.dat i _ heq
      have : v' = v := by rw [show σ[i]? = some (some v) from h] at q1; cases q1; rfl
      subst this
      exact ⟨F, Le.refl _, S, q2⟩
    · rename_i o heq
      cases e
      obtain ⟨q1, _, _, _⟩ := S.oc i o (oc_own heq)
      have : V.ref (ad i) = v := by rw [show σ[i]? = some (some v) from h] at q1; cases q1; rfl
      subst this
      exact S.freeze heq
    · cases e
/-- slot i is set to data -/
theorem RS.setDat {i : Nat} {v : V} {d : D} (S : RS K cl pa F R H σ ad env) (hi : i < env.length) (h : At K cl F v d) : RS K cl pa F R H (σ.set i (some v)) ad (env.set i (some (.dat d))) := by
  have hs : (env.set i (some (Sl.dat d)))[i]? = some (some (.dat d)) := by simp [hi]
  have hoc : ocOf (env.set i (some (Sl.dat d))) i = none := oc_dat hs
  have hσ : (σ.set i (some v))[i]? = some (some v) := by have := S.len ▸ hi; simp [this]
  refine ⟨S.fh, S.rh, by rw [List.length_set, List.length_set]; exact S.len, fun j e hj => ?_, fun j u hj => ?_, fun j k hjk hj hk => ?_, fun j u hj => ?_, S.dj, fun j c ns fs hj => ?_⟩
  · by_cases z : i = j
    · subst z; rw [hs] at hj; cases hj; exact ⟨v, hσ, h⟩
    · rw [List.getElem?_set_ne z] at hj ⊢; exact S.dat j e hj
  · by_cases z : i = j
    · subst z; rw [hoc] at hj; cases hj
    · rw [oc_set_ne z] at hj; rw [List.getElem?_set_ne z]; exact S.oc j u hj
  · have hj' : i ≠ j := fun z => by subst z; rw [hoc] at hj; cases hj
    have hk' : i ≠ k := fun z => by subst z; rw [hoc] at hk; cases hk
    rw [oc_set_ne hj'] at hj
    rw [oc_set_ne hk'] at hk
    exact S.ne j k hjk hj hk
  · by_cases z : i = j
    · subst z; rw [hs] at hj; cases hj
    · rw [List.getElem?_set_ne z] at hj; exact S.par j u hj
  · by_cases z : i = j
    · subst z; rw [hs] at hj; cases hj
    · rw [List.getElem?_set_ne z] at hj
      obtain ⟨h1, h2⟩ := S.slf j c ns fs hj
      exact ⟨by rw [List.getElem?_set_ne z]; exact h1, h2⟩
/-- slot i is set to a new container -/
theorem RS.setOwn {i : Nat} {a : Addr} {o : OC} (S : RS K cl pa F R H σ ad env) (hi : i < env.length) (h1 : F a = none) (h2 : R a = none) (h3 : OwnAt K cl F H a o) (h4 : ∀ j, (ocOf env j).isSome = true → ad j ≠ a) :
    RS K cl pa F R H (σ.set i (some (.ref a))) (fun j => if j = i then a else ad j) (env.set i (some (.own o))) := by
  have hs : (env.set i (some (Sl.own o)))[i]? = some (some (.own o)) := by simp [hi]
  have hσ : (σ.set i (some (.ref a)))[i]? = some (some (V.ref a)) := by have := S.len ▸ hi; simp [this]
  refine ⟨S.fh, S.rh, by rw [List.length_set, List.length_set]; exact S.len, fun j e hj => ?_, fun j u hj => ?_, fun j k hjk hj hk => ?_, fun j u hj => ?_, S.dj, fun j c ns fs hj => ?_⟩
  · by_cases z : i = j
    · subst z; rw [hs] at hj; cases hj
    · rw [List.getElem?_set_ne z] at hj ⊢; exact S.dat j e hj
  · by_cases z : i = j
    · subst z; rw [oc_own hs] at hj; cases hj
      simp only [if_pos]
      exact ⟨hσ, h1, h2, h3⟩
    · rw [oc_set_ne z] at hj; rw [List.getElem?_set_ne z]
      simp only [if_neg (Ne.symm z)]
      exact S.oc j u hj
  · by_cases z : i = j
    · subst z
      simp only [if_pos, if_neg (Ne.symm hjk)]
      rw [oc_set_ne hjk] at hk
      exact Ne.symm (h4 k hk)
    · rw [oc_set_ne z] at hj
      simp only [if_neg (Ne.symm z)]
      by_cases y : i = k
      · subst y; simp only [if_pos]; exact h4 j hj
      · rw [oc_set_ne y] at hk
        simp only [if_neg (Ne.symm y)]
        exact S.ne j k hjk hj hk
  · by_cases z : i = j
    · subst z; rw [hs] at hj; cases hj
    · rw [List.getElem?_set_ne z] at hj
      simp only [if_neg (Ne.symm z)]
      exact S.par j u hj
  · by_cases z : i = j
    · subst z; rw [hs] at hj; cases hj
    · rw [List.getElem?_set_ne z] at hj
      obtain ⟨g1, g2⟩ := S.slf j c ns fs hj
      exact ⟨by rw [List.getElem?_set_ne z]; exact g1, g2⟩
def setOC (env : En) (i : Nat) (o : OC) : En := match env[i]? with
  | some (some (.par _)) => env.set i (some (.par o))
  | _ => env.set i (some (.own o))
/-- the container in slot i is changed -/
theorem RS.write {i : Nat} {o o' : OC} {ob : HO} (S : RS K cl pa F R H σ ad env) (h : ocOf env i = some o) (hn : OwnAt K cl F (upd H (ad i) ob) (ad i) o') : RS K cl pa F R (upd H (ad i) ob) σ ad (setOC env i o') := by
  obtain ⟨q1, q2, q3, q4⟩ := S.oc i o h
  have hi : i < env.length := by
    unfold ocOf at h
    cases e : env[i]? with
    | none => rw [e] at h; cases h
    | some _ => exact (List.getElem?_eq_some_iff.mp e).1
  have hs : (setOC env i o')[i]? = some (some (.own o')) ∨ (∃ u, env[i]? = some (some (.par u)) ∧ (setOC env i o')[i]? = some (some (.par o'))) := by
    unfold setOC
    split
    · rename_i u e; exact .inr ⟨u, e, by simp [hi]⟩
    · exact .inl (by simp [hi])
  have hoc : ocOf (setOC env i o') i = some o' := by
    rcases hs with e | ⟨u, _, e⟩
    · exact oc_own e
    · exact oc_par e
  have hne : ∀ j, i ≠ j → (setOC env i o')[j]? = env[j]? := fun j z => by unfold setOC; split <;> rw [List.getElem?_set_ne z]
  have hocne : ∀ j, i ≠ j → ocOf (setOC env i o') j = ocOf env j := fun j z => by unfold ocOf; rw [hne j z]
  refine ⟨fun b u e => ?_, fun b u e => ?_, by unfold setOC; split <;> rw [List.length_set] <;> exact S.len, fun j d e => ?_, fun j u e => ?_, fun j k hjk hj hk => ?_, fun j u e => ?_, S.dj, fun j c ns fs e => ?_⟩
  · rw [upd_ne (fun z => by subst z; rw [q2] at e; cases e)]; exact S.fh b u e
  · rw [upd_ne (fun z => by subst z; rw [q3] at e; cases e)]; exact S.rh b u e
  · by_cases z : i = j
    · subst z
      rcases hs with x | ⟨_, _, x⟩ <;> (rw [x] at e; cases e)
    · rw [hne j z] at e; exact S.dat j d e
  · by_cases z : i = j
    · subst z; rw [hoc] at e; cases e; exact ⟨q1, q2, q3, hn⟩
    · rw [hocne j z] at e
      obtain ⟨r1, r2, r3, r4⟩ := S.oc j u e
      refine ⟨r1, r2, r3, r4.mono (Le.refl _) ?_⟩
      rw [upd_ne (S.ne j i (Ne.symm z) (by rw [e]; rfl) (by rw [h]; rfl))]
  · have hj' : (ocOf env j).isSome = true := by
      by_cases z : i = j
      · subst z; rw [h]; rfl
      · rw [hocne j z] at hj; exact hj
    have hk' : (ocOf env k).isSome = true := by
      by_cases z : i = k
      · subst z; rw [h]; rfl
      · rw [hocne k z] at hk; exact hk
    exact S.ne j k hjk hj' hk'
  · by_cases z : i = j
    · subst z
      rcases hs with x | ⟨w, y, x⟩
      · rw [x] at e; cases e
      · exact S.par i w y
    · rw [hne j z] at e; exact S.par j u e
  · by_cases z : i = j
    · subst z
      rcases hs with x | ⟨_, _, x⟩ <;> (rw [x] at e; cases e)
    · rw [hne j z] at e; exact S.slf j c ns fs e
end
end Z

set_option Elab.async false
set_option linter.all false
set_option maxRecDepth 100000
set_option maxHeartbeats 1000000
namespace Z
open PySem PySem.Spec PyProof.Rows L2

/-! ### weaker readings -/
theorem PE_weak {X : Cx} {e : Expr} {t t' : TE} (h : PE X e t) (w : ∀ σ H Q, t' σ H Q → t σ H Q) : PE X e t' := ⟨fun pins s σ H Q I q => h.run pins s σ H Q I (w σ H Q q)⟩
theorem PE_or {X : Cx} {e : Expr} {t u : TE} (h : PE X e t) (h' : PE X e u) : PE X e (fun σ H Q => t σ H Q ∨ u σ H Q) := ⟨fun pins s σ H Q I q => q.elim (h.run pins s σ H Q I) (h'.run pins s σ H Q I)⟩
theorem PT_weak {X : Cx} {e : Expr} {t t' : TT} (h : PT X e t) (w : ∀ σ H Q, t' σ H Q → t σ H Q) : PT X e t' := ⟨fun pins s σ H Q I q => h.run pins s σ H Q I (w σ H Q q)⟩
theorem PW_weak {X : Cx} {e : Expr} {t t' : TT} (h : PW X e t) (w : ∀ σ H Q, t' σ H Q → t σ H Q) : PW X e t' := ⟨fun wh pins s σ H Q I q => h.run wh pins s σ H Q I (w σ H Q q)⟩
theorem PA_weak {X : Cx} {es : List Expr} {t t' : TA} (h : PA X es t) (w : ∀ σ H Q, t' σ H Q → t σ H Q) : PA X es t' := ⟨fun p pins s σ H Q I q => h.run p pins s σ H Q I (w σ H Q q)⟩
theorem PS_weak {X : Cx} {st : Stmt} {t t' : TS} (h : PS X st t) (w : ∀ D σ H, t' D σ H → t D σ H) : PS X st t' := ⟨fun pins s σ H D I q => h.run pins s σ H D I (w D σ H q)⟩
theorem PSs_weak {X : Cx} {st : List Stmt} {t t' : TS} (h : PSs X st t) (w : ∀ D σ H, t' D σ H → t D σ H) : PSs X st t' := ⟨fun pins s σ H D I q => h.run pins s σ H D I (w D σ H q)⟩
theorem OpR_or {X : Cx} {f : Value → Value → Sem Value} {r r' : R2} (h : OpR X f r) (h' : OpR X f r') : OpR X f (fun x y H Q => r x y H Q ∨ r' x y H Q) := fun pins s σ H x y v u Q I rx ry q => q.elim (h pins s σ H x y v u Q I rx ry) (h' pins s σ H x y v u Q I rx ry)

section
variable (K : PySem.W.Frag) (cl : Str → Addr)
abbrev Fe := En → Option (Rv × En)
abbrev Ft := En → Option (Bool × En)
abbrev Fa := En → Option (List Rv × En)
/-- an expression's meaning -/
def tR (f : Fe) : TE := fun σ H Q => ∃ pa F R ad env rv env', RS K cl pa F R H σ ad env ∧ f env = some (rv, env') ∧
  ∀ F' ad' H' v, Le F F' → RS K cl pa F' R H' σ ad' env' → RvAt K cl F' R H' σ ad' env' v rv → Q v H'
def tT (f : Ft) : TT := fun σ H Q => ∃ pa F R ad env b env', RS K cl pa F R H σ ad env ∧ f env = some (b, env') ∧
  ∀ F' ad' H', Le F F' → RS K cl pa F' R H' σ ad' env' → Q b H'
def tL (f : Fa) : TA := fun σ H Q => ∃ pa F R ad env rvs env', RS K cl pa F R H σ ad env ∧ f env = some (rvs, env') ∧
  ∀ F' ad' H' vs, Le F F' → RS K cl pa F' R H' σ ad' env' → Paired (fun v r => RvF K cl F' σ v r) vs rvs → Q vs H'
/-- what follows a value that an operation makes -/
def Res (F H : Hp) (r : Rv) (Q : VK) : Prop := match r with
  | .dat d => ∀ F' H' v, Grow F H F' H' → At K cl F' v d → Q v H'
  | .own o => ∀ p ob, H p = none → OwnAt K cl F (upd H p ob) p o → Q (.ref p) (upd H p ob)
  | .slot _ => True
def Op2 (g : D → D → Option Rv) (r : R2) : Prop := ∀ F H x y d e rv Q, Le F H → AtT K cl F H x d → AtT K cl F H y e → g d e = some rv → Res K cl F H rv Q → r x y H Q
def OpL (g : List D → Option Rv) (r : List V → Hp → VK → Prop) : Prop := ∀ F H xs ds rv Q, Le F H → Paired (fun v d => AtT K cl F H v d) xs ds → g ds = some rv → Res K cl F H rv Q → r xs H Q
end

section
variable {K : PySem.W.Frag} {cl : Str → Addr} {pa : Nat → Addr} {F F' R H H' : Hp} {σ : L2.St} {ad : Nat → Addr} {env env' : En}
def NoSlot : Rv → Prop
  | .slot _ => False
  | _ => True
/-- an operation's result in the environment -/
theorem RS.res {r : Rv} {Q : VK} (S : RS K cl pa F R H σ ad env) (k : ∀ F' ad' H' v, Le F F' → RS K cl pa F' R H' σ ad' env → RvAt K cl F' R H' σ ad' env v r → Q v H') : Res K cl F H r Q := by
  cases r with
  | dat d => exact fun F1 H1 v g a => k F1 ad H1 v (g.le S.fh) (S.grow g) a
  | slot i => trivial
  | own o =>
    intro p ob hp ow
    refine k F ad (upd H p ob) (.ref p) (Le.refl _) (S.newAt hp) ⟨p, rfl, S.fh.fresh hp, S.rh.fresh hp, ow, fun j hj z => ?_⟩
    cases e : ocOf env j with
    | none => rw [e] at hj; cases hj
    | some u =>
      obtain ⟨_, _, _, q4⟩ := S.oc j u e
      obtain ⟨b, hb⟩ := q4.has
      rw [z, hp] at hb; cases hb
theorem Res.dat0 {d : D} {Q : VK} (h : Res K cl F H (.dat d) Q) {v : V} (a : At K cl F v d) : Q v H := h F H v .no a
theorem Res.tup {ds : List D} {Q : VK} (h : Res K cl F H (.dat (.tup ds)) Q) (e : Le F H) {p : Addr} (hp : H p = none) {vs : List V} (a : AtAll K cl F vs ds) : Q (.ref p) (upd H p (.tup vs)) :=
  h (upd F p (.tup vs)) _ _ (.fr p _ hp) (.tup upd_same (a.mono (Le.put (e.fresh hp))))
theorem Res.lst {ds : List D} {Q : VK} (h : Res K cl F H (.own (.lst ds)) Q) {p : Addr} (hp : H p = none) {vs : List V} (a : AtAll K cl F vs ds) : Q (.ref p) (upd H p (.lst vs)) :=
  h p _ hp ⟨vs, upd_same, a⟩
theorem Res.dtN {Q : VK} (h : Res K cl F H (.own (.dct [] [])) Q) {p : Addr} (hp : H p = none) : Q (.ref p) (upd H p (.dT [])) :=
  h p _ hp ⟨[], upd_same, rfl, .nil⟩
end

/-! ### expressions -/
section
variable {X : Cx} {cl : Str → Addr} {a b c e : Expr} {pos : Pos} {fa fb fc : Fe}
def vS (i : Nat) : Fe := fun env => match env[i]? with
  | some (some _) => some (.slot i, env)
  | _ => none
theorem RS.slot {K : PySem.W.Frag} {pa : Nat → Addr} {F R H : Hp} {σ : L2.St} {ad : Nat → Addr} {env : En} {i : Nat} {s : Sl} (S : RS K cl pa F R H σ ad env) (h : env[i]? = some (some s)) : ∃ v, σ[i]? = some (some v) := by
  cases s with
  | dat d => obtain ⟨v, h1, _⟩ := S.dat i d h; exact ⟨v, h1⟩
  | own o => exact ⟨_, (S.oc i o (oc_own h)).1⟩
  | par o => exact ⟨_, (S.oc i o (oc_par h)).1⟩
  | slf c ns fs => exact ⟨_, (S.slf i c ns fs h).1⟩
theorem pr_var (i : Nat) {x : Str} {pos : Pos} (hN : X.N[i]? = some x := by rfl) (hv : Vis X.env.scope x := by first | exact Or.inl rfl | exact Or.inr (Or.inl rfl) | exact Or.inr (Or.inr rfl)) (hd : (x == ("__debug__" : Str)) = false := by decide)
    (hcd : (x == ("__classdict__" : Str)) = false := by decide) : PE X (.Name x pos) (tR X.K cl (vS i)) := by
  refine PE_weak (pe_var hN hv hd hcd) fun σ H Q q => ?_
  obtain ⟨pa, F, R, ad, env, rv, env', S, hf, k⟩ := q
  unfold vS at hf
  split at hf
  · rename_i s hs
    cases hf
    obtain ⟨v, hv⟩ := S.slot hs
    exact ⟨v, hv, k F ad H v (Le.refl _) S hv⟩
  · cases hf
/-- a constant -/
def cS (d : D) : Fe := fun env => some (.dat d, env)
theorem pr_c {v : V} {d : D} (h : PE X e (tC v)) (hd : ∀ F, At X.K cl F v d) : PE X e (tR X.K cl (cS d)) := by
  refine PE_weak h fun σ H Q q => ?_
  obtain ⟨pa, F, R, ad, env, rv, env', S, hf, k⟩ := q
  cases hf
  exact k F ad H v (Le.refl _) S (hd F)
theorem pr_int {i : Int} {j pos} : PE X (.Constant (.int i) j pos) (tR X.K cl (cS (.int i))) := pr_c pe_int fun _ => .int i
theorem pr_bl {b : Bool} {j pos} : PE X (.Constant (.bool b) j pos) (tR X.K cl (cS (.bl b))) := pr_c pe_bl fun _ => .bl b
theorem pr_non {j pos} : PE X (.Constant .none j pos) (tR X.K cl (cS .non)) := pr_c pe_non fun _ => .non
theorem pr_str {x : Str} {j pos} : PE X (.Constant (.str x) j pos) (tR X.K cl (cS (.str x))) := pr_c pe_str fun _ => .str x
theorem pr_glob {x : Str} {v : V} {d : D} {u : Value} {pos : Pos} (hm : X.mg x = some u) (r : RelV v u) (hd : ∀ F, At X.K cl F v d) (hg : Gl X x := by rfl) (hdb : (x == ("__debug__" : Str)) = false := by decide) : PE X (.Name x pos) (tR X.K cl (cS d)) :=
  pr_c (pe_glob hg hm r hdb) hd
theorem pr_gint {x : Str} {i : Int} {pos : Pos} (hm : ∃ t, X.mg x = some (.int i t)) (hg : Gl X x := by rfl) (hdb : (x == ("__debug__" : Str)) = false := by decide) : PE X (.Name x pos) (tR X.K cl (cS (.int i))) := by
  obtain ⟨t, h⟩ := hm
  exact pr_glob (v := V.int i) (d := D.int i) h ⟨t, rfl⟩ (fun _ => .int i) hg hdb
/-- a built-in class as a value -/
theorem pr_ty {x : Str} {n : String} {pos : Pos} (hm : X.mg x = none) (hv : bootBuiltins x = some (.type n)) (hg : Gl X x := by rfl) (hn : x ≠ "__name__" := by decide) (hdb : (x == ("__debug__" : Str)) = false := by decide) : PE X (.Name x pos) (tR X.K cl (cS (.ty n))) :=
  pr_c (pe_bltn (v := .ty n) hg hm hv rfl hn hdb) fun _ => .ty n

/-- two operands -/
def bin2 (g : D → D → Option Rv) (fa fb : Fe) : Fe := fun env =>
  (fa env).bind fun p => (fb p.2).bind fun q => (rd q.2 (fz p.1)).bind fun d => (rd q.2 (fz q.1)).bind fun e => (g d e).bind fun r => some (r, q.2)
theorem bin2_op {g : D → D → Option Rv} {r : R2} (hs : Op2 X.K cl g r) : ∀ σ H Q, tR X.K cl (bin2 g fa fb) σ H Q → tOp r (tR X.K cl fa) (tR X.K cl fb) σ H Q := by
  rintro σ H Q ⟨pa, F, R, ad, env, rv, env', S, hf, k⟩
  unfold bin2 at hf
  obtain ⟨⟨r1, e1⟩, h1, hf⟩ := Option.bind_eq_some_iff.mp hf
  obtain ⟨⟨r2, e2⟩, h2, hf⟩ := Option.bind_eq_some_iff.mp hf
  obtain ⟨d1, h3, hf⟩ := Option.bind_eq_some_iff.mp hf
  obtain ⟨d2, h4, hf⟩ := Option.bind_eq_some_iff.mp hf
  obtain ⟨rr, h5, hf⟩ := Option.bind_eq_some_iff.mp hf
  cases hf
  refine ⟨pa, F, R, ad, env, _, _, S, h1, fun F1 ad1 H1 x le1 S1 a1 => ?_⟩
  obtain ⟨G1, l1, T1, b1⟩ := S1.fzz a1
  refine ⟨pa, G1, R, ad1, _, _, _, T1, h2, fun F2 ad2 H2 y le2 S2 a2 => ?_⟩
  obtain ⟨G2, l2, T2, b2⟩ := S2.fzz a2
  refine hs G2 H2 x y d1 d2 _ Q T2.fh (T2.read (b1.mono (le2.trans l2)) h3) (T2.read b2 h4) h5 (T2.res fun F3 ad3 H3 v le3 S3 a3 => ?_)
  exact k F3 ad3 H3 v (((le1.trans l1).trans (le2.trans l2)).trans le3) S3 a3
theorem pr_op {op : Operator} {g : D → D → Option Rv} {r : R2} (ho : OpR X (binaryOp op) r) (hs : Op2 X.K cl g r) (ha : PE X a (tR X.K cl fa)) (hb : PE X b (tR X.K cl fb)) : PE X (.BinOp a op b pos) (tR X.K cl (bin2 g fa fb)) :=
  PE_weak (pe_op ho ha hb) (bin2_op hs)
def bRes (g : D → D → Option Bool) : D → D → Option Rv := fun d e => (g d e).bind fun b => some (.dat (.bl b))
theorem pr_cmp {op : CmpOp} {g : D → D → Option Bool} {r : R2} (ho : OpR X (compareOp op) r) (hs : Op2 X.K cl (bRes g) r) (ha : PE X a (tR X.K cl fa)) (hb : PE X b (tR X.K cl fb)) (hm : behindInMarks op b = false) : PE X (.Compare a [op] [b] pos) (tR X.K cl (bin2 (bRes g) fa fb)) :=
  PE_weak (pe_cmpR ho ha hb hm) (bin2_op hs)
def cmpT (g : D → D → Option Bool) (fa fb : Fe) : Ft := fun env =>
  (fa env).bind fun p => (fb p.2).bind fun q => (rd q.2 (fz p.1)).bind fun d => (rd q.2 (fz q.1)).bind fun e => (g d e).bind fun r => some (r, q.2)
theorem pq_cmp {op : CmpOp} {g : D → D → Option Bool} {r : R2} (ho : OpR X (compareOp op) r) (hs : Op2 X.K cl (bRes g) r) (ha : PE X a (tR X.K cl fa)) (hb : PE X b (tR X.K cl fb)) (hm : behindInMarks op b = false) : PT X (.Compare a [op] [b] pos) (tT X.K cl (cmpT g fa fb)) := by
  refine PT_weak (pt_cmpR ho ha hb hm) fun σ H Q q => ?_
  obtain ⟨pa, F, R, ad, env, rv, env', S, hf, k⟩ := q
  refine bin2_op (fa := fa) (fb := fb) hs σ H _ ⟨pa, F, R, ad, env, .dat (.bl rv), env', S, ?_, fun F' ad' H' v le S' a' => ?_⟩
  · unfold cmpT at hf
    obtain ⟨⟨r1, e1⟩, h1, hf⟩ := Option.bind_eq_some_iff.mp hf
    obtain ⟨⟨r2, e2⟩, h2, hf⟩ := Option.bind_eq_some_iff.mp hf
    obtain ⟨d1, h3, hf⟩ := Option.bind_eq_some_iff.mp hf
    obtain ⟨d2, h4, hf⟩ := Option.bind_eq_some_iff.mp hf
    obtain ⟨rr, h5, hf⟩ := Option.bind_eq_some_iff.mp hf
    cases hf
    unfold bin2
    simp only [h1, h2, h3, h4, Option.bind_some, bRes, h5]
  · cases a'
    exact ⟨rv, rfl, k F' ad' H' le S'⟩
/-- a op b op' c -/
def chn (g g' : D → D → Option Bool) (fa fb fc : Fe) : Ft := fun env =>
  (fa env).bind fun p => (fb p.2).bind fun q => (rd q.2 (fz p.1)).bind fun d => (rd q.2 (fz q.1)).bind fun e => (g d e).bind fun r =>
    if r = true then (fc q.2).bind fun s => (rd s.2 (fz q.1)).bind fun e' => (rd s.2 (fz s.1)).bind fun h => (g' e' h).bind fun r' => some (r', s.2) else some (false, q.2)
theorem chn_op {g g' : D → D → Option Bool} {r r' : R2} (hs : Op2 X.K cl (bRes g) r) (hs' : Op2 X.K cl (bRes g') r') {σ : L2.St} {H : Hp} {Q : VK}
    (h : ∃ pa F R ad env b env', RS X.K cl pa F R H σ ad env ∧ chn g g' fa fb fc env = some (b, env') ∧ ∀ F' ad' H', Le F F' → RS X.K cl pa F' R H' σ ad' env' → Q (.bl b) H') :
    tChain r r' (tR X.K cl fa) (tR X.K cl fb) (tR X.K cl fc) σ H Q := by
  obtain ⟨pa, F, R, ad, env, rv, env', S, hf, k⟩ := h
  unfold chn at hf
  obtain ⟨⟨r1, e1⟩, h1, hf⟩ := Option.bind_eq_some_iff.mp hf
  obtain ⟨⟨r2, e2⟩, h2, hf⟩ := Option.bind_eq_some_iff.mp hf
  obtain ⟨d1, h3, hf⟩ := Option.bind_eq_some_iff.mp hf
  obtain ⟨d2, h4, hf⟩ := Option.bind_eq_some_iff.mp hf
  obtain ⟨rr, h5, hf⟩ := Option.bind_eq_some_iff.mp hf
  refine ⟨pa, F, R, ad, env, _, _, S, h1, fun F1 ad1 H1 x le1 S1 a1 => ?_⟩
  obtain ⟨G1, l1, T1, b1⟩ := S1.fzz a1
  refine ⟨pa, G1, R, ad1, _, _, _, T1, h2, fun F2 ad2 H2 y le2 S2 a2 => ?_⟩
  obtain ⟨G2, l2, T2, b2⟩ := S2.fzz a2
  refine hs G2 H2 x y d1 d2 (.dat (.bl rr)) _ T2.fh (T2.read (b1.mono (le2.trans l2)) h3) (T2.read b2 h4) (by unfold bRes; rw [h5]; rfl) (T2.res fun F3 ad3 H3 v le3 S3 a3 => ?_)
  cases a3
  refine ⟨rr, rfl, ?_⟩
  cases rr with
  | false =>
    rw [if_neg Bool.false_ne_true] at hf ⊢
    cases hf
    exact k F3 ad3 H3 (((le1.trans l1).trans (le2.trans l2)).trans le3) S3
  | true =>
    rw [if_pos rfl] at hf ⊢
    obtain ⟨⟨r4, e4⟩, h6, hf⟩ := Option.bind_eq_some_iff.mp hf
    obtain ⟨d4, h7, hf⟩ := Option.bind_eq_some_iff.mp hf
    obtain ⟨d5, h8, hf⟩ := Option.bind_eq_some_iff.mp hf
    obtain ⟨r5, h9, hf⟩ := Option.bind_eq_some_iff.mp hf
    cases hf
    refine ⟨pa, F3, R, ad3, _, _, _, S3, h6, fun F4 ad4 H4 z le4 S4 a4 => ?_⟩
    obtain ⟨G4, l4, T4, b4⟩ := S4.fzz a4
    refine hs' G4 H4 y z d4 d5 (.dat (.bl rv)) _ T4.fh (T4.read (b2.mono ((le3.trans le4).trans l4)) h7) (T4.read b4 h8) (by unfold bRes; rw [h9]; rfl) (T4.res fun F5 ad5 H5 v le5 S5 a5 => ?_)
    cases a5
    exact k F5 ad5 H5 (((((le1.trans l1).trans (le2.trans l2)).trans le3).trans (le4.trans l4)).trans le5) S5
/-- a test as a value -/
def tV (f : Ft) : Fe := fun env => (f env).bind fun p => some (.dat (.bl p.1), p.2)
theorem pr_chain {op op' : CmpOp} {g g' : D → D → Option Bool} {r r' : R2} (ho : OpR X (compareOp op) r) (hs : Op2 X.K cl (bRes g) r) (ho' : OpR X (compareOp op') r') (hs' : Op2 X.K cl (bRes g') r') (ha : PE X a (tR X.K cl fa)) (hb : PE X b (tR X.K cl fb)) (hc : PE X c (tR X.K cl fc))
    (hm : lastMarks [op, op'] [b, c] = false := by with_unfolding_all rfl) : PE X (.Compare a [op, op'] [b, c] pos) (tR X.K cl (tV (chn g g' fa fb fc))) := by
  refine PE_weak (pe_chain ho ho' ha hb hc hm) fun σ H Q q => ?_
  obtain ⟨pa, F, R, ad, env, rv, env', S, hf, k⟩ := q
  unfold tV at hf
  obtain ⟨⟨b, e1⟩, h1, hf⟩ := Option.bind_eq_some_iff.mp hf
  cases hf
  exact chn_op hs hs' ⟨pa, F, R, ad, env, b, _, S, h1, fun F' ad' H' le S' => k F' ad' H' _ le S' (.bl b)⟩
theorem pq_chain {op op' : CmpOp} {g g' : D → D → Option Bool} {r r' : R2} (ho : OpR X (compareOp op) r) (hs : Op2 X.K cl (bRes g) r) (ho' : OpR X (compareOp op') r') (hs' : Op2 X.K cl (bRes g') r') (ha : PE X a (tR X.K cl fa)) (hb : PE X b (tR X.K cl fb)) (hc : PE X c (tR X.K cl fc))
    (hm : lastMarks [op, op'] [b, c] = false := by with_unfolding_all rfl) : PT X (.Compare a [op, op'] [b, c] pos) (tT X.K cl (chn g g' fa fb fc)) := by
  refine PT_weak (pt_chain ho ho' ha hb hc hm) fun σ H Q q => ?_
  obtain ⟨pa, F, R, ad, env, rv, env', S, hf, k⟩ := q
  exact chn_op hs hs' ⟨pa, F, R, ad, env, rv, _, S, hf, fun F' ad' H' le S' => ⟨rv, rfl, k F' ad' H' le S'⟩⟩

/-! ### truth -/
def truD : D → Option Bool
  | .non => some false
  | .bl b => some b
  | .int i => some (i != 0)
  | .lst ds => some (!ds.isEmpty)
  | .tup ds => some (!ds.isEmpty)
  | _ => none
theorem isEmpty_at {K : PySem.W.Frag} {F : Hp} {vs : List V} {ds : List D} (h : AtAll K cl F vs ds) : vs.isEmpty = ds.isEmpty := by cases h <;> rfl
theorem tru_of {K : PySem.W.Frag} {F H : Hp} {v : V} {d : D} {b : Bool} (le : Le F H) (h : AtT K cl F H v d) (e : truD d = some b) : TruV K v H b := by
  cases d with
  | non => cases e; cases h; exact rfl
  | bl b => cases e; cases h; exact rfl
  | int i => cases e; cases h; exact rfl
  | lst ds => cases e; obtain ⟨a, vs, rfl, h1, h2⟩ := h; exact Or.inl ⟨vs, SqL.of h1, by rw [isEmpty_at h2]⟩
  | tup ds =>
    cases e
    cases h with
    | tup h1 h2 => exact Or.inr (Or.inl ⟨_, SqT.of (le _ _ h1), by rw [isEmpty_at h2]⟩)
  | _ => cases e
def truS (f : Fe) : Ft := fun env => (f env).bind fun p => (rd p.2 (fz p.1)).bind fun d => (truD d).bind fun b => some (b, p.2)
theorem truS_op {f : Fe} {σ : L2.St} {H : Hp} {Q : Bool → Hp → Prop} (q : tT X.K cl (truS f) σ H Q) : tR X.K cl f σ H fun x H' => ∃ k, TruV X.K x H' k ∧ Q k H' := by
  obtain ⟨pa, F, R, ad, env, rv, env', S, hf, k⟩ := q
  unfold truS at hf
  obtain ⟨⟨r1, e1⟩, h1, hf⟩ := Option.bind_eq_some_iff.mp hf
  obtain ⟨d1, h3, hf⟩ := Option.bind_eq_some_iff.mp hf
  obtain ⟨b, h5, hf⟩ := Option.bind_eq_some_iff.mp hf
  cases hf
  refine ⟨pa, F, R, ad, env, _, _, S, h1, fun F1 ad1 H1 x le1 S1 a1 => ?_⟩
  obtain ⟨G1, l1, T1, b1⟩ := S1.fzz a1
  exact ⟨_, tru_of T1.fh (T1.read b1 h3) h5, k G1 ad1 H1 (le1.trans l1) T1⟩
theorem pq_val (ha : PE X a (tR X.K cl fa)) (he : ∀ whole, isTrue a X.env whole = (do let v ← whole; standAt a.pos; holding [v] (truthy v)) := by intro _; rfl) : PT X a (tT X.K cl (truS fa)) :=
  PT_weak (pt_truth ha he) fun σ H Q q => truS_op q
def notT (f : Ft) : Ft := fun env => (f env).bind fun p => some (!p.1, p.2)
theorem pq_not {f : Ft} (ha : PT X a (tT X.K cl f)) : PT X (.UnaryOp .Not a pos) (tT X.K cl (notT f)) := by
  refine PT_weak (pt_not ha) fun σ H Q q => ?_
  obtain ⟨pa, F, R, ad, env, rv, env', S, hf, k⟩ := q
  unfold notT at hf
  obtain ⟨⟨b, e1⟩, h1, hf⟩ := Option.bind_eq_some_iff.mp hf
  cases hf
  exact ⟨pa, F, R, ad, env, b, _, S, h1, k⟩
def andT (f g : Ft) : Ft := fun env => (f env).bind fun p => if p.1 = true then g p.2 else some (false, p.2)
def orT (f g : Ft) : Ft := fun env => (f env).bind fun p => if p.1 = true then some (true, p.2) else g p.2
variable {rest : List Expr} {f g : Ft}
theorem pq_and1 (ha : PT X a (tT X.K cl f)) : PW X (.BoolOp .And [a] pos) (tT X.K cl f) := pw_and1 ha
theorem pq_or1 (ha : PT X a (tT X.K cl f)) : PW X (.BoolOp .Or [a] pos) (tT X.K cl f) := pw_or1 ha
theorem pq_and (ha : PT X a (tT X.K cl f)) (hb : PW X (.BoolOp .And (b :: rest) pos) (tT X.K cl g)) : PW X (.BoolOp .And (a :: b :: rest) pos) (tT X.K cl (andT f g)) := by
  refine PW_weak (pw_and ha hb) fun σ H Q q => ?_
  obtain ⟨pa, F, R, ad, env, rv, env', S, hf, k⟩ := q
  unfold andT at hf
  obtain ⟨⟨b, e1⟩, h1, hf⟩ := Option.bind_eq_some_iff.mp hf
  refine ⟨pa, F, R, ad, env, b, _, S, h1, fun F1 ad1 H1 le1 S1 => ?_⟩
  cases b with
  | true => exact ⟨pa, F1, R, ad1, e1, rv, env', S1, hf, fun F2 ad2 H2 le2 S2 => k F2 ad2 H2 (le1.trans le2) S2⟩
  | false => cases hf; exact k F1 ad1 H1 le1 S1
theorem pq_or (ha : PT X a (tT X.K cl f)) (hb : PW X (.BoolOp .Or (b :: rest) pos) (tT X.K cl g)) : PW X (.BoolOp .Or (a :: b :: rest) pos) (tT X.K cl (orT f g)) := by
  refine PW_weak (pw_or ha hb) fun σ H Q q => ?_
  obtain ⟨pa, F, R, ad, env, rv, env', S, hf, k⟩ := q
  unfold orT at hf
  obtain ⟨⟨b, e1⟩, h1, hf⟩ := Option.bind_eq_some_iff.mp hf
  refine ⟨pa, F, R, ad, env, b, _, S, h1, fun F1 ad1 H1 le1 S1 => ?_⟩
  cases b with
  | false => exact ⟨pa, F1, R, ad1, e1, rv, env', S1, hf, fun F2 ad2 H2 le2 S2 => k F2 ad2 H2 (le1.trans le2) S2⟩
  | true => cases hf; exact k F1 ad1 H1 le1 S1
/-- and, or as values -/
def andS (f g : Fe) : Fe := fun env => (f env).bind fun p => (rd p.2 (fz p.1)).bind fun d => (truD d).bind fun b => if b = true then g p.2 else some (fz p.1, p.2)
def orS (f g : Fe) : Fe := fun env => (f env).bind fun p => (rd p.2 (fz p.1)).bind fun d => (truD d).bind fun b => if b = true then some (fz p.1, p.2) else g p.2
def notS (f : Fe) : Fe := tV (notT (truS f))
theorem rvAt_of {K : PySem.W.Frag} {F R H : Hp} {σ : L2.St} {ad : Nat → Addr} {env : En} {v : V} {r : Rv} (h : RvF K cl F σ v r) : RvAt K cl F R H σ ad env v r := by
  cases r with
  | dat d => exact h
  | slot i => exact h
  | own o => exact h.elim
theorem pr_and (ha : PE X a (tR X.K cl fa)) (hb : PE X (.BoolOp .And (b :: rest) pos) (tR X.K cl fb)) : PE X (.BoolOp .And (a :: b :: rest) pos) (tR X.K cl (andS fa fb)) := by
  refine PE_weak (pe_andT ha hb) fun σ H Q q => ?_
  obtain ⟨pa, F, R, ad, env, rv, env', S, hf, k⟩ := q
  unfold andS at hf
  obtain ⟨⟨r1, e1⟩, h1, hf⟩ := Option.bind_eq_some_iff.mp hf
  obtain ⟨d1, h3, hf⟩ := Option.bind_eq_some_iff.mp hf
  obtain ⟨b, h5, hf⟩ := Option.bind_eq_some_iff.mp hf
  refine ⟨pa, F, R, ad, env, _, _, S, h1, fun F1 ad1 H1 x le1 S1 a1 => ?_⟩
  obtain ⟨G1, l1, T1, b1⟩ := S1.fzz a1
  refine ⟨b, tru_of T1.fh (T1.read b1 h3) h5, ?_⟩
  cases b with
  | true => exact ⟨pa, G1, R, ad1, e1, rv, env', T1, hf, fun F2 ad2 H2 v le2 S2 a2 => k F2 ad2 H2 v ((le1.trans l1).trans le2) S2 a2⟩
  | false => cases hf; exact k G1 ad1 H1 x (le1.trans l1) T1 (rvAt_of b1)
theorem pr_or (ha : PE X a (tR X.K cl fa)) (hb : PE X (.BoolOp .Or (b :: rest) pos) (tR X.K cl fb)) : PE X (.BoolOp .Or (a :: b :: rest) pos) (tR X.K cl (orS fa fb)) := by
  refine PE_weak (pe_orT ha hb) fun σ H Q q => ?_
  obtain ⟨pa, F, R, ad, env, rv, env', S, hf, k⟩ := q
  unfold orS at hf
  obtain ⟨⟨r1, e1⟩, h1, hf⟩ := Option.bind_eq_some_iff.mp hf
  obtain ⟨d1, h3, hf⟩ := Option.bind_eq_some_iff.mp hf
  obtain ⟨b, h5, hf⟩ := Option.bind_eq_some_iff.mp hf
  refine ⟨pa, F, R, ad, env, _, _, S, h1, fun F1 ad1 H1 x le1 S1 a1 => ?_⟩
  obtain ⟨G1, l1, T1, b1⟩ := S1.fzz a1
  refine ⟨b, tru_of T1.fh (T1.read b1 h3) h5, ?_⟩
  cases b with
  | false => exact ⟨pa, G1, R, ad1, e1, rv, env', T1, hf, fun F2 ad2 H2 v le2 S2 a2 => k F2 ad2 H2 v ((le1.trans l1).trans le2) S2 a2⟩
  | true => cases hf; exact k G1 ad1 H1 x (le1.trans l1) T1 (rvAt_of b1)
theorem pr_one {op : BoolOp} (ha : PE X a (tR X.K cl fa)) : PE X (.BoolOp op [a] pos) (tR X.K cl fa) := pe_one ha
theorem pr_not (ha : PE X a (tR X.K cl fa)) : PE X (.UnaryOp .Not a pos) (tR X.K cl (notS fa)) := by
  refine PE_weak (pe_notT ha) fun σ H Q q => ?_
  obtain ⟨pa, F, R, ad, env, rv, env', S, hf, k⟩ := q
  unfold notS tV at hf
  obtain ⟨⟨b, e1⟩, h1, hf⟩ := Option.bind_eq_some_iff.mp hf
  cases hf
  unfold notT at h1
  obtain ⟨⟨b', e2⟩, h2, h1⟩ := Option.bind_eq_some_iff.mp h1
  cases h1
  exact truS_op ⟨pa, F, R, ad, env, b', _, S, h2, fun F' ad' H' le S' => k F' ad' H' _ le S' (.bl _)⟩
def ifS (c : Ft) (f g : Fe) : Fe := fun env => (c env).bind fun p => if p.1 = true then f p.2 else g p.2
theorem pr_if {f : Ft} (hc : PT X c (tT X.K cl f)) (ha : PE X a (tR X.K cl fa)) (hb : PE X b (tR X.K cl fb)) : PE X (.IfExp c a b pos) (tR X.K cl (ifS f fa fb)) := by
  refine PE_weak (pe_ifExp hc ha hb) fun σ H Q q => ?_
  obtain ⟨pa, F, R, ad, env, rv, env', S, hf, k⟩ := q
  unfold ifS at hf
  obtain ⟨⟨b, e1⟩, h1, hf⟩ := Option.bind_eq_some_iff.mp hf
  refine ⟨pa, F, R, ad, env, b, _, S, h1, fun F1 ad1 H1 le1 S1 => ?_⟩
  cases b with
  | true => exact ⟨pa, F1, R, ad1, e1, rv, env', S1, hf, fun F2 ad2 H2 v le2 S2 a2 => k F2 ad2 H2 v (le1.trans le2) S2 a2⟩
  | false => exact ⟨pa, F1, R, ad1, e1, rv, env', S1, hf, fun F2 ad2 H2 v le2 S2 a2 => k F2 ad2 H2 v (le1.trans le2) S2 a2⟩

/-! ### rows of expressions -/
def nilL : Fa := fun env => some ([], env)
def consL (f : Fe) (g : Fa) : Fa := fun env => (f env).bind fun p => (g p.2).bind fun q => some (fz p.1 :: q.1, q.2)
theorem pl_nil : PA X [] (tL X.K cl nilL) := by
  refine PA_weak pa_nil fun σ H Q q => ?_
  obtain ⟨pa, F, R, ad, env, rv, env', S, hf, k⟩ := q
  cases hf
  exact k F ad H [] (Le.refl _) S .nil
theorem pairF_mono {K : PySem.W.Frag} {F F' : Hp} {σ : L2.St} (le : Le F F') : ∀ {vs : List V} {rs : List Rv}, Paired (fun v r => RvF K cl F σ v r) vs rs → Paired (fun v r => RvF K cl F' σ v r) vs rs
  | _, _, .nil => .nil
  | _, _, .cons h t => .cons (h.mono le) (pairF_mono le t)
theorem pl_cons {es : List Expr} {f : Fe} {g : Fa} (ha : PE X e (tR X.K cl f)) (hr : PA X es (tL X.K cl g)) (hs : starEach (e :: es) X.env = (false, eval e X.env) :: starEach es X.env := by rfl) : PA X (e :: es) (tL X.K cl (consL f g)) := by
  refine PA_weak (pa_cons ha hr hs) fun σ H Q q => ?_
  obtain ⟨pa, F, R, ad, env, rv, env', S, hf, k⟩ := q
  unfold consL at hf
  obtain ⟨⟨r1, e1⟩, h1, hf⟩ := Option.bind_eq_some_iff.mp hf
  obtain ⟨⟨r2, e2⟩, h2, hf⟩ := Option.bind_eq_some_iff.mp hf
  cases hf
  refine ⟨pa, F, R, ad, env, _, _, S, h1, fun F1 ad1 H1 x le1 S1 a1 => ?_⟩
  obtain ⟨G1, l1, T1, b1⟩ := S1.fzz a1
  exact ⟨pa, G1, R, ad1, _, _, _, T1, h2, fun F2 ad2 H2 vs le2 S2 a2 => k F2 ad2 H2 (x :: vs) ((le1.trans l1).trans le2) S2 (.cons (b1.mono le2) a2)⟩
/-- to keep them all -/
def kpL (env : En) : List Rv → Option (List D × En)
  | [] => some ([], env)
  | r :: rs => (kp env r).bind fun p => (kpL p.2 rs).bind fun q => some (p.1 :: q.1, q.2)
theorem RS.keepL {K : PySem.W.Frag} {pa : Nat → Addr} {R H : Hp} {σ : L2.St} {ad : Nat → Addr} : ∀ {rs : List Rv} {vs : List V} {F : Hp} {env env' : En} {ds : List D}, RS K cl pa F R H σ ad env → Paired (fun v r => RvF K cl F σ v r) vs rs → kpL env rs = some (ds, env') →
    ∃ F', Le F F' ∧ RS K cl pa F' R H σ ad env' ∧ AtAll K cl F' vs ds
  | [], _, F, env, env', ds, S, .nil, e => by cases e; exact ⟨F, Le.refl _, S, .nil⟩
  | r :: rs, _, F, env, env', ds, S, .cons h t, e => by
    unfold kpL at e
    obtain ⟨⟨d, e1⟩, h1, e⟩ := Option.bind_eq_some_iff.mp e
    obtain ⟨⟨ds', e2⟩, h2, e⟩ := Option.bind_eq_some_iff.mp e
    cases e
    obtain ⟨F1, l1, S1, a1⟩ := S.keep h h1
    obtain ⟨F2, l2, S2, a2⟩ := RS.keepL S1 (pairF_mono l1 t) h2
    exact ⟨F2, l1.trans l2, S2, .cons (a1.mono l2) a2⟩
def rdL (env : En) : List Rv → Option (List D)
  | [] => some []
  | r :: rs => (rd env r).bind fun d => (rdL env rs).bind fun ds => some (d :: ds)
theorem RS.readL {K : PySem.W.Frag} {pa : Nat → Addr} {F R H : Hp} {σ : L2.St} {ad : Nat → Addr} {env : En} (S : RS K cl pa F R H σ ad env) : ∀ {rs : List Rv} {vs : List V} {ds : List D}, Paired (fun v r => RvF K cl F σ v r) vs rs → rdL env rs = some ds → Paired (fun v d => AtT K cl F H v d) vs ds
  | [], _, ds, .nil, e => by cases e; exact .nil
  | r :: rs, _, ds, .cons h t, e => by
    unfold rdL at e
    obtain ⟨d, h1, e⟩ := Option.bind_eq_some_iff.mp e
    obtain ⟨ds', h2, e⟩ := Option.bind_eq_some_iff.mp e
    cases e
    exact .cons (S.read h h1) (RS.readL S t h2)
def tupS (g : Fa) : Fe := fun env => (g env).bind fun p => (kpL p.2 p.1).bind fun q => some (.dat (.tup q.1), q.2)
def lstS (g : Fa) : Fe := fun env => (g env).bind fun p => (kpL p.2 p.1).bind fun q => some (.own (.lst q.1), q.2)
theorem pr_tup {es : List Expr} {x1} {g : Fa} (h : PA X es (tL X.K cl g)) (hlen : ∀ (env : En) (rvs : List Rv) (env' : En), g env = some (rvs, env') → rvs.length = es.length) (hl : es.length ≤ sizeLine := by decide) : PE X (.Tuple es x1 pos) (tR X.K cl (tupS g)) := by
  refine PE_weak (pe_tup h) fun σ H Q q => ?_
  obtain ⟨pa, F, R, ad, env, rv, env', S, hf, k⟩ := q
  unfold tupS at hf
  obtain ⟨⟨r1, e1⟩, h1, hf⟩ := Option.bind_eq_some_iff.mp hf
  obtain ⟨⟨ds, e2⟩, h2, hf⟩ := Option.bind_eq_some_iff.mp hf
  cases hf
  refine ⟨pa, F, R, ad, env, _, _, S, h1, fun F1 ad1 H1 vs le1 S1 a1 => ?_⟩
  obtain ⟨F2, l2, S2, a2⟩ := S1.keepL a1 h2
  refine ⟨by rw [Paired.length a1, hlen _ _ _ h1]; exact hl, fun p hp => ?_⟩
  have g := Grow.fr (F := F2) p (.tup vs) hp
  exact k _ ad1 _ (.ref p) ((le1.trans l2).trans (g.le S2.fh)) (S2.grow g) (At.tup upd_same (a2.mono (g.le S2.fh)))
theorem pr_lst {es : List Expr} {g : Fa} (h : PA X es (tL X.K cl g)) (hlen : ∀ (env : En) (rvs : List Rv) (env' : En), g env = some (rvs, env') → rvs.length = es.length) (hl : es.length ≤ sizeLine := by decide) : PE X (.List es pos) (tR X.K cl (lstS g)) := by
  refine PE_weak (pe_lst h) fun σ H Q q => ?_
  obtain ⟨pa, F, R, ad, env, rv, env', S, hf, k⟩ := q
  unfold lstS at hf
  obtain ⟨⟨r1, e1⟩, h1, hf⟩ := Option.bind_eq_some_iff.mp hf
  obtain ⟨⟨ds, e2⟩, h2, hf⟩ := Option.bind_eq_some_iff.mp hf
  cases hf
  refine ⟨pa, F, R, ad, env, _, _, S, h1, fun F1 ad1 H1 vs le1 S1 a1 => ?_⟩
  obtain ⟨F2, l2, S2, a2⟩ := S1.keepL a1 h2
  refine ⟨by rw [Paired.length a1, hlen _ _ _ h1]; exact hl, fun p hp => ?_⟩
  have rr : Res X.K cl F2 H1 (.own (.lst ds)) Q := S2.res fun F3 ad3 H3 v le3 S3 a3 => k F3 ad3 H3 v ((le1.trans l2).trans le3) S3 a3
  exact rr.lst hp a2
theorem nilL_len : ∀ (env : En) (rvs : List Rv) (env' : En), nilL env = some (rvs, env') → rvs.length = 0 := by
  intro env rvs env' h; cases h; rfl
theorem consL_len {f : Fe} {g : Fa} {n : Nat} (h : ∀ (env : En) (rvs : List Rv) (env' : En), g env = some (rvs, env') → rvs.length = n) : ∀ (env : En) (rvs : List Rv) (env' : En), consL f g env = some (rvs, env') → rvs.length = n + 1 := by
  intro env rvs env' e
  unfold consL at e
  obtain ⟨⟨r1, e1⟩, h1, e⟩ := Option.bind_eq_some_iff.mp e
  obtain ⟨⟨r2, e2⟩, h2, e⟩ := Option.bind_eq_some_iff.mp e
  cases e
  simp [h _ _ _ h2]

/-! ### calls of built-ins, by values -/
def cbS (g : List D → Option Rv) (fs : Fa) : Fe := fun env => (fs env).bind fun p => (rdL p.2 p.1).bind fun ds => (g ds).bind fun r => some (r, p.2)
theorem cb_op {g : List D → Option Rv} {fs : Fa} {r : List V → Hp → VK → Prop} (hs : OpL X.K cl g r) : ∀ σ H Q, tR X.K cl (cbS g fs) σ H Q → tCB r (tL X.K cl fs) σ H Q := by
  rintro σ H Q ⟨pa, F, R, ad, env, rv, env', S, hf, k⟩
  unfold cbS at hf
  obtain ⟨⟨r1, e1⟩, h1, hf⟩ := Option.bind_eq_some_iff.mp hf
  obtain ⟨ds, h2, hf⟩ := Option.bind_eq_some_iff.mp hf
  obtain ⟨rr, h3, hf⟩ := Option.bind_eq_some_iff.mp hf
  cases hf
  refine ⟨pa, F, R, ad, env, _, _, S, h1, fun F1 ad1 H1 vs le1 S1 a1 => ?_⟩
  exact hs F1 H1 vs ds _ Q S1.fh (S1.readL a1 h2) h3 (S1.res fun F3 ad3 H3 v le3 S3 a3 => k F3 ad3 H3 v (le1.trans le3) S3 a3)
theorem pr_blt {x : Str} {p : Pos} {es : List Expr} {id : String} {g : List D → Option Rv} {fs : Fa} {r : List V → Hp → VK → Prop} (hc : CallR X (.builtin id) r) (hs : OpL X.K cl g r) (hm : X.mg x = none) (hv : bootBuiltins x = some (.builtin id)) (ha : PA X (e :: es) (tL X.K cl fs)) (hg : Gl X x := by rfl)
    (hn : x ≠ "__name__" := by decide) (hdb : (x == ("__debug__" : Str)) = false := by decide) (he : starEach (e :: es) X.env = (false, eval e X.env) :: starEach es X.env := by rfl) (hpl : (backTo pos (starEach es X.env)).any (·.1) = false := by rfl) :
    PE X (.Call (.Name x p) (e :: es) [] pos) (tR X.K cl (cbS g fs)) := PE_weak (pe_callB hc hg hm hv ha hn hdb he hpl) (cb_op hs)
theorem pr_tyc {x : Str} {p : Pos} {es : List Expr} {T : String} {g : List D → Option Rv} {fs : Fa} {r : List V → Hp → VK → Prop} (hc : CallR X (.type T) r) (hs : OpL X.K cl g r) (hm : X.mg x = none) (hv : bootBuiltins x = some (.type T)) (ha : PA X (e :: es) (tL X.K cl fs)) (hg : Gl X x := by rfl)
    (hn : x ≠ "__name__" := by decide) (hdb : (x == ("__debug__" : Str)) = false := by decide) (he : starEach (e :: es) X.env = (false, eval e X.env) :: starEach es X.env := by rfl) (hpl : (backTo pos (starEach es X.env)).any (·.1) = false := by rfl) :
    PE X (.Call (.Name x p) (e :: es) [] pos) (tR X.K cl (cbS g fs)) := PE_weak (pe_callTy hc hg hm hv ha hn hdb he hpl) (cb_op hs)
theorem pr_bfun {x : Str} {p : Pos} {es : List Expr} {id : String} {g : List D → Option Rv} {fs : Fa} {r : List V → Hp → VK → Prop} (hc : CallR X (.builtin id) r) (hs : OpL X.K cl g r) (hm : X.mg x = some (.builtin id)) (ha : PA X (e :: es) (tL X.K cl fs)) (hg : Gl X x := by rfl)
    (hdb : (x == ("__debug__" : Str)) = false := by decide) (he : starEach (e :: es) X.env = (false, eval e X.env) :: starEach es X.env := by rfl) (hpl : (backTo pos (starEach es X.env)).any (·.1) = false := by rfl) :
    PE X (.Call (.Name x p) (e :: es) [] pos) (tR X.K cl (cbS g fs)) := PE_weak (pe_callBfun hc hg hm ha hdb he hpl) (cb_op hs)

/-! ### subscripts -/
theorem pr_ix {g : D → D → Option Rv} {r : R2} (hr : IxR X r) (hs : Op2 X.K cl g r) (ha : PE X a (tR X.K cl fa)) (hb : PE X b (tR X.K cl fb)) (hp : PlainIx b) : PE X (.Subscript a b pos) (tR X.K cl (bin2 g fa fb)) :=
  PE_weak (pe_ix hr ha hb hp) (bin2_op hs)
end
end Z

set_option Elab.async false
set_option linter.all false
set_option maxRecDepth 100000
set_option maxHeartbeats 1000000
/-! Operators and built-ins on data. -/
namespace Z
open PySem PySem.Spec PyProof.Rows L2

@[irreducible] def Big : Nat := 2 ^ 4096
theorem Big_eq : Big = 2 ^ 4096 := by unfold Big; rfl
theorem log2_Big {n : Nat} (h : n < Big) : n.log2 < 4096 := by rw [Big_eq] at h; exact PySem.Flt.log2_lt_of (by decide) h
def okMul (i j : Int) : Bool := decide (i.natAbs < 2 ^ 63) || decide (j.natAbs < 2 ^ 63) || (decide (i.natAbs < Big) && decide (j.natAbs < Big))
def okDiv (j : Int) : Bool := decide (0 < j) && decide (j.natAbs < Big)
theorem okMul_ok {i j : Int} (h : okMul i j = true) : IntMulOk i j := by
  unfold okMul at h
  rcases Bool.or_eq_true_iff.mp h with h | h
  · rcases Bool.or_eq_true_iff.mp h with h | h
    · have := of_decide_eq_true h; exact CMul.ok (.inl ⟨by omega, by omega⟩)
    · have := of_decide_eq_true h; exact CMul.ok (.inr ⟨by omega, by omega⟩)
  · obtain ⟨h1, h2⟩ := Bool.and_eq_true_iff.mp h
    have a := log2_Big (of_decide_eq_true h1)
    have b := log2_Big (of_decide_eq_true h2)
    exact CMulW.ok (show _ < _ by omega)

section
variable {X : Cx}
theorem op_mulB : OpR X (binaryOp .Mult) (rI (fun i j => okMul i j = true) fun i j => .int (i * j)) := opI fun _ _ _ _ _ _ _ hc q => mul_int q (okMul_ok hc)
theorem op_divB : OpR X (binaryOp .FloorDiv) (rI (fun _ j => okDiv j = true) fun i j => .int (i / j)) := opI fun i j _ _ _ _ _ hc q => by
  obtain ⟨h1, h2⟩ := Bool.and_eq_true_iff.mp hc
  have h3 := of_decide_eq_true h1
  exact floordiv_int (by omega) (by rw [Int.fdiv_eq_ediv_of_nonneg i (by omega)]; exact q) (.inl (PyProof.noPylong_of_log2 (by have := log2_Big (of_decide_eq_true h2); omega)))
end

def intsOf : List D → Option (List Int)
  | [] => some []
  | .int i :: r => (intsOf r).bind fun ns => some (i :: ns)
  | _ => none
theorem intsOf_eq : ∀ {ds : List D} {ns : List Int}, intsOf ds = some ns → ds = ns.map D.int
  | [], ns, h => by cases h; rfl
  | .int i :: r, ns, h => by
    unfold intsOf at h
    obtain ⟨ms, h1, h⟩ := Option.bind_eq_some_iff.mp h
    cases h
    rw [intsOf_eq h1]; rfl
  | .non :: r, ns, h => by simp [intsOf] at h
  | .bl _ :: r, ns, h => by simp [intsOf] at h
  | .str _ :: r, ns, h => by simp [intsOf] at h
  | .ty _ :: r, ns, h => by simp [intsOf] at h
  | .tup _ :: r, ns, h => by simp [intsOf] at h
  | .lst _ :: r, ns, h => by simp [intsOf] at h
  | .scr _ :: r, ns, h => by simp [intsOf] at h
  | .ptup _ :: r, ns, h => by simp [intsOf] at h
  | .dk _ _ :: r, ns, h => by simp [intsOf] at h
  | .dt _ _ :: r, ns, h => by simp [intsOf] at h
  | .obj _ _ _ :: r, ns, h => by simp [intsOf] at h
theorem intsOf_map : ∀ (ns : List Int), intsOf (ns.map D.int) = some ns
  | [] => rfl
  | n :: r => by show (intsOf (r.map D.int)).bind _ = _; rw [intsOf_map r]; rfl

section
variable {K : PySem.W.Frag} {cl : Str → Addr} {F H : Hp} {v : V} {d : D} {X : Cx}
theorem AtAll.intsV : ∀ {F : Hp} {vs : List V} {ns : List Int}, AtAll K cl F vs (ns.map D.int) → vs = ns.map V.int
  | _, _, [], .nil => rfl
  | _, _, n :: r, .cons h t => by cases h; rw [AtAll.intsV t]; rfl
theorem at_int {i : Int} (h : AtT K cl F H v (.int i)) : v = .int i := by cases h; rfl
theorem at_bl {b : Bool} (h : AtT K cl F H v (.bl b)) : v = .bl b := by cases h; rfl
theorem at_str {x : Str} (h : AtT K cl F H v (.str x)) : v = .str x := by cases h; rfl
theorem at_non (h : AtT K cl F H v .non) : v = .non := by cases h; rfl
theorem at_ty {n : String} (h : AtT K cl F H v (.ty n)) : v = .ty n := by cases h; rfl
theorem at_tup {ds : List D} (h : AtT K cl F H v (.tup ds)) : ∃ a vs, v = .ref a ∧ F a = some (.tup vs) ∧ AtAll K cl F vs ds := by cases h with | tup h1 h2 => exact ⟨_, _, rfl, h1, h2⟩

theorem at_ptup {ds : List D} (h : AtT K cl F H v (.ptup ds)) : ∃ a vs o, v = .ref a ∧ F a = some (.frz o (.tup vs)) ∧ o.dict = none ∧ AtAll K cl F vs ds := by
  cases h with
  | ptup h1 h2 h3 => exact ⟨_, _, _, rfl, h1, h2, h3⟩
theorem sq_frz {a : Addr} {o : PySem.Obj} {vs : List V} (h : H a = some (.frz o (.tup vs))) : SqT K H a vs := .inl (.inr ⟨o, h⟩)
/-! ### + -/
def addG : D → D → Option Rv
  | .int i, .int j => some (.dat (.int (i + j)))
  | .tup a, .tup b => if a.length + b.length ≤ 16777216 then some (.dat (.tup (a ++ b))) else none
  | .lst a, .lst b => if a.length + b.length ≤ 16777216 then some (.own (.lst (a ++ b))) else none
  | _, _ => none
def rAddZ (K : PySem.W.Frag) : R2 := fun x y H Q => rI0 (fun i j => .int (i + j)) x y H Q ∨ rCatA K x y H Q ∨ rCat x y H Q
theorem op_addZ : OpR X (binaryOp .Add) (rAddZ X.K) := OpR_or op_add (OpR_or op_catA op_cat)
theorem add_ok : Op2 K cl addG (rAddZ K) := by
  intro F H x y d e rv Q le hx hy hg res
  unfold addG at hg
  split at hg
  · cases hg
    rw [at_int hx, at_int hy]
    exact .inl ⟨_, _, rfl, rfl, res.dat0 (.int _)⟩
  · split at hg
    · rename_i a b hz
      cases hg
      obtain ⟨p, vs, rfl, h1, h2⟩ := at_tup hx
      obtain ⟨q, ws, rfl, h3, h4⟩ := at_tup hy
      have l1 := h2.length
      have l2 := h4.length
      refine .inr (.inl ⟨p, q, vs, ws, rfl, rfl, SqT.of (le _ _ h1), SqT.of (le _ _ h3), by rw [sizeLine_eq]; omega, fun e => ?_, fun e1 e2 => ?_, fun e1 e2 r hr => res.tup le hr (h2.append h4)⟩)
      · subst e; cases h2; exact res.dat0 (.tup h3 h4)
      · subst e2; cases h4; rw [List.append_nil] at res; exact res.dat0 (.tup h1 h2)
    · cases hg
  · split at hg
    · rename_i a b hz
      cases hg
      obtain ⟨p, vs, rfl, h1, h2⟩ := hx
      obtain ⟨q, ws, rfl, h3, h4⟩ := hy
      have l1 := h2.length
      have l2 := h4.length
      exact .inr (.inr ⟨p, q, vs, ws, rfl, rfl, h1, h3, by rw [sizeLine_eq]; omega, fun r hr => res.lst hr (h2.append h4)⟩)
    · cases hg
  · cases hg
/-! ### -, *, //, %, ** -/
def subG : D → D → Option Rv
  | .int i, .int j => some (.dat (.int (i - j)))
  | _, _ => none
theorem sub_ok : Op2 K cl subG (rI0 fun i j => .int (i - j)) := by
  intro F H x y d e rv Q le hx hy hg res
  unfold subG at hg
  split at hg
  · cases hg; rw [at_int hx, at_int hy]; exact ⟨_, _, rfl, rfl, res.dat0 (.int _)⟩
  · cases hg
def divG : D → D → Option Rv
  | .int i, .int j => if okDiv j = true then some (.dat (.int (i / j))) else none
  | _, _ => none
theorem div_ok : Op2 K cl divG (rI (fun _ j => okDiv j = true) fun i j => .int (i / j)) := by
  intro F H x y d e rv Q le hx hy hg res
  unfold divG at hg
  split at hg
  · split at hg
    · rename_i h; cases hg; rw [at_int hx, at_int hy]; exact ⟨_, _, rfl, rfl, h, res.dat0 (.int _)⟩
    · cases hg
  · cases hg
def modG : D → D → Option Rv
  | .int i, .int j => if 0 < j then some (.dat (.int (i % j))) else none
  | _, _ => none
theorem mod_ok : Op2 K cl modG (rI (fun _ j => 0 < j) fun i j => .int (i % j)) := by
  intro F H x y d e rv Q le hx hy hg res
  unfold modG at hg
  split at hg
  · split at hg
    · rename_i h; cases hg; rw [at_int hx, at_int hy]; exact ⟨_, _, rfl, rfl, h, res.dat0 (.int _)⟩
    · cases hg
  · cases hg
def powG : D → D → Option Rv
  | .int i, .int j => if 0 ≤ j ∧ j ≤ 1000 ∧ i.natAbs < 2 ^ 63 then some (.dat (.int (i ^ j.toNat))) else none
  | _, _ => none
theorem pow_ok : Op2 K cl powG (rI CPow fun i j => .int (i ^ j.toNat)) := by
  intro F H x y d e rv Q le hx hy hg res
  unfold powG at hg
  split at hg
  · split at hg
    · rename_i h; cases hg; rw [at_int hx, at_int hy]; exact ⟨_, _, rfl, rfl, ⟨h.1, by omega, by omega⟩, res.dat0 (.int _)⟩
    · cases hg
  · cases hg
def mulG : D → D → Option Rv
  | .int i, .int j => if okMul i j = true then some (.dat (.int (i * j))) else none
  | .lst a, .int k => if k.natAbs < 2 ^ 62 ∧ a.length * k.toNat ≤ 16777216 then some (.own (.lst (List.replicate k.toNat a).flatten)) else none
  | .tup a, .int k => if a ≠ [] ∧ 1 ≤ k ∧ k ≤ 1000 ∧ a.length ≤ 1000 then some (.dat (.tup (List.replicate k.toNat a).flatten)) else none
  | _, _ => none
end
/-- t * 1 is t itself -/
theorem tuple_mul1 (l : Addr) (items : Array Value) (n : Nat) (dd : Option Addr) (sl : Array (Option Value)) (u : Tok) :
    Meets (Builtin.«tuple.__mul__» ⟨[.ref l, .int 1 u], []⟩) (fun _ R s => s.heap.get? l = some { cls := .type "tuple", dict := dd, data := .seq items n, slots := sl } ∧ R (.ok (.ret (Value.ref l))) s) :=
  .of_wp fun prog w A R s h => by
    obtain ⟨hp, g, d, tk, os⟩ := s
    obtain ⟨hl, h⟩ := h
    have f1 := AutoSeq1.idx_int
    have c0 : (decide ((1 : Int) < -(2 ^ 63)) || decide ((1 : Int) ≥ 2 ^ 63)) = false := by decide
    have c1 : (items.isEmpty || (1 : Int) == 1) = true := by simp
    wp_walk using wpAny_loadPart' hl
    repeat (first
      | (refine wpAny_ite_false (decide_eq_false (by rw [c0]; exact Bool.false_ne_true)) ?_; wp_walk using wpAny_loadPart' hl)
      | (refine wpAny_ite_true (decide_eq_true c1) ?_; wp_walk using wpAny_loadPart' hl))
    exact ⟨_, rfl, h⟩
end Z

set_option Elab.async false
set_option linter.all false
set_option maxRecDepth 100000
set_option maxHeartbeats 1000000
namespace Z
open PySem PySem.Spec PyProof.Rows L2
section
variable {X : Cx}
def rRep1 (K : PySem.W.Frag) : R2 := fun x y H Q => ∃ l xs, x = .ref l ∧ y = .int 1 ∧ SqT K H l xs ∧ Q (.ref l) H
theorem op_rep1 : OpR X (binaryOp .Mult) (rRep1 X.K) := by
  intro pins s σ H x y v u Q I rx ry h
  obtain ⟨l, xs, rfl, rfl, hT, q⟩ := h
  cases rx
  obtain ⟨t, rfl⟩ := ry
  obtain ⟨its, r, ⟨⟨cls, dd, data, sl⟩, ho, hc, n, hd⟩, hs⟩ := I.tuple hT
  simp only at hc hd
  subst hc hd
  exact wpAny_binaryOp_repeat_ref (T := "tuple") (U := "int") (by decide) ⟨_, ho, rfl⟩ (fun s' => typeIs_int s' 1 t) noFill_tuple_mul F.fills_int_mul F.slot_int_rmul repeat_tuple F.slot_int_index.lookup
    (call_meets F.slot_int_rmul (typeIs_int s 1 t) F.entry_int_rmul (F.args_int_rmul_2 _ _) (int_rmul_tuple 1 t l its.toArray n dd sl)
      ⟨ho, rfl, ⟨_, ho, rfl⟩, call_meets F.slot_tuple_mul ⟨_, ho, rfl⟩ F.entry_tuple_mul (F.args_tuple_mul_2 _ _) (tuple_mul1 l its.toArray n dd sl t) ⟨ho, ⟨.ref l, H, I, rfl, q⟩⟩⟩)
end
section
variable {K : PySem.W.Frag} {cl : Str → Addr} {F H : Hp} {v : V} {d : D} {X : Cx}
def rMulZ (K : PySem.W.Frag) : R2 := fun x y H Q => rI (fun i j => okMul i j = true) (fun i j => .int (i * j)) x y H Q ∨ rRep x y H Q ∨ rRep1 K x y H Q ∨ rRepT K x y H Q
theorem op_mulZ : OpR X (binaryOp .Mult) (rMulZ X.K) := OpR_or op_mulB (OpR_or op_rep (OpR_or op_rep1 op_repT))
theorem mul_ok : Op2 K cl mulG (rMulZ K) := by
  intro F H x y d e rv Q le hx hy hg res
  unfold mulG at hg
  split at hg
  · split at hg
    · rename_i h; cases hg; rw [at_int hx, at_int hy]; exact .inl ⟨_, _, rfl, rfl, h, res.dat0 (.int _)⟩
    · cases hg
  · split at hg
    · rename_i a k h
      cases hg
      obtain ⟨p, vs, rfl, h1, h2⟩ := hx
      rw [at_int hy]
      have l1 := h2.length
      exact .inr (.inl ⟨p, k, vs, rfl, rfl, h1, by omega, by omega, by rw [sizeLine_eq, l1]; exact h.2, fun r hr => res.lst hr (h2.rep _)⟩)
    · cases hg
  · split at hg
    · rename_i a k h
      cases hg
      obtain ⟨p, vs, rfl, h1, h2⟩ := at_tup hx
      rw [at_int hy]
      have l1 := h2.length
      obtain ⟨n1, n2, n3, n4⟩ := h
      by_cases hk : k = 1
      · subst hk
        refine .inr (.inr (.inl ⟨p, vs, rfl, rfl, SqT.of (le _ _ h1), res.dat0 (.tup h1 ?_)⟩))
        show AtAll K cl F vs (List.replicate 1 a).flatten
        simpa using h2
      · refine .inr (.inr (.inr ⟨p, k, vs, rfl, rfl, SqT.of (le _ _ h1), fun e => ?_, by omega, n3, by omega, fun r hr => res.tup le hr (h2.rep _)⟩))
        subst e; cases h2; exact n1 rfl
    · cases hg
  · cases hg
/-! ### unary minus -/
def un1 (g : D → Option Rv) (fa : Fe) : Fe := fun env => (fa env).bind fun p => (rd p.2 (fz p.1)).bind fun d => (g d).bind fun r => some (r, p.2)
def negG : D → Option Rv
  | .int i => some (.dat (.int (-i)))
  | _ => none
theorem pr_neg {a : Expr} {pos : Pos} {fa : Fe} (ha : PE X a (tR X.K cl fa)) : PE X (.UnaryOp .USub a pos) (tR X.K cl (un1 negG fa)) := by
  refine PE_weak (pe_un un_neg ha) fun σ H Q q => ?_
  obtain ⟨pa, F, R, ad, env, rv, env', S, hf, k⟩ := q
  unfold un1 at hf
  obtain ⟨⟨r1, e1⟩, h1, hf⟩ := Option.bind_eq_some_iff.mp hf
  obtain ⟨d1, h3, hf⟩ := Option.bind_eq_some_iff.mp hf
  obtain ⟨rr, h5, hf⟩ := Option.bind_eq_some_iff.mp hf
  cases hf
  refine ⟨pa, F, R, ad, env, _, _, S, h1, fun F1 ad1 H1 x le1 S1 a1 => ?_⟩
  obtain ⟨G1, l1, T1, b1⟩ := S1.fzz a1
  have t1 := T1.read b1 h3
  unfold negG at h5
  split at h5
  · cases h5
    rw [at_int t1]
    exact ⟨_, rfl, k G1 ad1 H1 _ (le1.trans l1) T1 (.int _)⟩
  · cases h5
/-! ### comparisons -/
def ltG : D → D → Option Bool
  | .int i, .int j => some (decide (i < j))
  | _, _ => none
def leG : D → D → Option Bool
  | .int i, .int j => some (decide (i ≤ j))
  | _, _ => none
def gtG : D → D → Option Bool
  | .int i, .int j => some (decide (j < i))
  | _, _ => none
def geG : D → D → Option Bool
  | .int i, .int j => some (decide (j ≤ i))
  | _, _ => none
theorem lt_ok : Op2 K cl (bRes ltG) (rI0 fun i j => .bl (decide (i < j))) := by
  intro F H x y d e rv Q le hx hy hg res
  obtain ⟨b, h1, hg⟩ := Option.bind_eq_some_iff.mp hg
  unfold ltG at h1
  split at h1
  · cases h1; cases hg; rw [at_int hx, at_int hy]; exact ⟨_, _, rfl, rfl, res.dat0 (.bl _)⟩
  · cases h1
theorem le_ok : Op2 K cl (bRes leG) (rI0 fun i j => .bl (decide (i ≤ j))) := by
  intro F H x y d e rv Q le hx hy hg res
  obtain ⟨b, h1, hg⟩ := Option.bind_eq_some_iff.mp hg
  unfold leG at h1
  split at h1
  · cases h1; cases hg; rw [at_int hx, at_int hy]; exact ⟨_, _, rfl, rfl, res.dat0 (.bl _)⟩
  · cases h1
theorem gt_ok : Op2 K cl (bRes gtG) (rI0 fun i j => .bl (decide (j < i))) := by
  intro F H x y d e rv Q le hx hy hg res
  obtain ⟨b, h1, hg⟩ := Option.bind_eq_some_iff.mp hg
  unfold gtG at h1
  split at h1
  · cases h1; cases hg; rw [at_int hx, at_int hy]; exact ⟨_, _, rfl, rfl, res.dat0 (.bl _)⟩
  · cases h1
theorem ge_ok : Op2 K cl (bRes geG) (rI0 fun i j => .bl (decide (j ≤ i))) := by
  intro F H x y d e rv Q le hx hy hg res
  obtain ⟨b, h1, hg⟩ := Option.bind_eq_some_iff.mp hg
  unfold geG at h1
  split at h1
  · cases h1; cases hg; rw [at_int hx, at_int hy]; exact ⟨_, _, rfl, rfl, res.dat0 (.bl _)⟩
  · cases h1
/-! ### == -/
def eqG : D → D → Option Bool
  | .int i, .int j => some (decide (i = j))
  | .bl a, .bl b => some (decide (a = b))
  | .str x, .str y => some (decide (x = y))
  | .non, .non => some true
  | .non, .int _ => some false
  | .int _, .non => some false
  | .non, .bl _ => some false
  | .bl _, .non => some false
  | .non, .str _ => some false
  | .str _, .non => some false
  | .lst a, .lst b => (intsOf a).bind fun ns => (intsOf b).bind fun ms => some (decide (ns = ms))
  | _, _ => none
def neG (d e : D) : Option Bool := (eqG d e).bind fun b => some (!b)
def rEqZ (K : PySem.W.Frag) : R2 := fun x y H Q => rEq x y H Q ∨ rEqD K x y H Q
def rNeZ (K : PySem.W.Frag) : R2 := fun x y H Q => rNe x y H Q ∨ rNeD K x y H Q
theorem op_eqZ (hu : X.A.units + 64 < cLine) : OpR X (compareOp .Eq) (rEqZ X.K) := OpR_or op_eq (op_eqD hu)
theorem op_neZ (hu : X.A.units + 64 < cLine) : OpR X (compareOp .NotEq) (rNeZ X.K) := OpR_or op_ne (op_neD hu)
theorem dp_ints : ∀ (ns : List Int), DpAll K H (ns.map V.int) (ns.map PyData.int)
  | [] => .nil
  | n :: r => .cons (.int n) (dp_ints r)
theorem ints_lay : ∀ (ns : List Int), PyData.canLayAll0 (ns.map PyData.int) = true
  | [] => by simp [PyData.canLayAll0]
  | n :: r => by simp [PyData.canLayAll0, PyData.canLay0, ints_lay r]
theorem ints_depth : ∀ (ns : List Int), PyData.depthAll (ns.map PyData.int) ≤ 1
  | [] => by simp [PyData.depthAll]
  | n :: r => by
    have := ints_depth r
    simp only [List.map_cons, PyData.depthAll, PyData.depth]; omega
theorem ints_shaped (ns : List Int) : SeqAt.shaped (.list (ns.map PyData.int)) = true := by
  unfold SeqAt.shaped
  have h := ints_depth ns
  rw [Bool.and_eq_true_iff]
  refine ⟨by simp [PyData.canLay0, ints_lay], decide_eq_true ?_⟩
  simp only [PyData.depth]; omega
theorem ints_eqv : ∀ (ns ms : List Int), PyData.eqvAll (ns.map PyData.int) (ms.map PyData.int) = decide (ns = ms)
  | [], [] => by simp [PyData.eqvAll]
  | [], _ :: _ => by simp [PyData.eqvAll]
  | _ :: _, [] => by simp [PyData.eqvAll]
  | n :: r, m :: q => by
    simp only [List.map_cons, PyData.eqvAll, PyData.eqv, ints_eqv r q]
    rw [Bool.eq_iff_iff]
    simp
theorem eq_both {x y : V} {d e : D} {b : Bool} (le : Le F H) (hx : AtT K cl F H x d) (hy : AtT K cl F H y e) (h : eqG d e = some b) :
    (scal x y = true ∧ decide (x = y) = b) ∨ ∃ p q, Dp K H x p ∧ Dp K H y q ∧ SeqAt.shaped p = true ∧ SeqAt.shaped q = true ∧ PyData.eqv p q = b := by
  unfold eqG at h
  split at h
  · cases h; rw [at_int hx, at_int hy]; exact .inl ⟨rfl, by rw [dec_int]; exact (Bool.beq_eq_decide_eq _ _)⟩
  · cases h; rw [at_bl hx, at_bl hy]; exact .inl ⟨rfl, by rw [dec_bl]; exact (Bool.beq_eq_decide_eq _ _)⟩
  · cases h; rw [at_str hx, at_str hy]; exact .inl ⟨rfl, by rw [Bool.eq_iff_iff]; simp⟩
  · cases h; rw [at_non hx, at_non hy]; exact .inl ⟨rfl, by decide⟩
  · cases h; rw [at_non hx, at_int hy]; exact .inl ⟨rfl, by simp⟩
  · cases h; rw [at_int hx, at_non hy]; exact .inl ⟨rfl, by simp⟩
  · cases h; rw [at_non hx, at_bl hy]; exact .inl ⟨rfl, by simp⟩
  · cases h; rw [at_bl hx, at_non hy]; exact .inl ⟨rfl, by simp⟩
  · cases h; rw [at_non hx, at_str hy]; exact .inl ⟨rfl, by simp⟩
  · cases h; rw [at_str hx, at_non hy]; exact .inl ⟨rfl, by simp⟩
  · obtain ⟨ns, h1, h⟩ := Option.bind_eq_some_iff.mp h
    obtain ⟨ms, h2, h⟩ := Option.bind_eq_some_iff.mp h
    cases h
    rw [intsOf_eq h1] at hx
    rw [intsOf_eq h2] at hy
    obtain ⟨p, vs, rfl, e1, a1⟩ := hx
    obtain ⟨q, ws, rfl, e2, a2⟩ := hy
    rw [a1.intsV] at e1
    rw [a2.intsV] at e2
    exact .inr ⟨_, _, .lst (SqL.of e1) (dp_ints ns), .lst (SqL.of e2) (dp_ints ms), ints_shaped ns, ints_shaped ms, by simp only [PyData.eqv]; exact ints_eqv ns ms⟩
  · cases h
theorem eq_ok : Op2 K cl (bRes eqG) (rEqZ K) := by
  intro F H x y d e rv Q le hx hy hg res
  obtain ⟨b, h1, hg⟩ := Option.bind_eq_some_iff.mp hg
  cases hg
  rcases eq_both le hx hy h1 with ⟨h2, rfl⟩ | ⟨p, q, h2, h3, h4, h5, rfl⟩
  · exact .inl ⟨h2, res.dat0 (.bl _)⟩
  · exact .inr ⟨p, q, h2, h3, h4, h5, res.dat0 (.bl _)⟩
theorem ne_ok : Op2 K cl (bRes neG) (rNeZ K) := by
  intro F H x y d e rv Q le hx hy hg res
  obtain ⟨b, h1, hg⟩ := Option.bind_eq_some_iff.mp hg
  obtain ⟨c, h2, h1⟩ := Option.bind_eq_some_iff.mp h1
  cases hg
  cases h1
  rcases eq_both le hx hy h2 with ⟨g2, rfl⟩ | ⟨p, q, g2, g3, g4, g5, rfl⟩
  · exact .inl ⟨g2, res.dat0 (.bl _)⟩
  · exact .inr ⟨p, q, g2, g3, g4, g5, res.dat0 (.bl _)⟩
/-! ### is None -/
def isN : D → Bool
  | .non => true
  | _ => false
theorem isN_of (h : AtT K cl F H v d) : decide (v = .non) = isN d := by
  cases d with
  | non => cases h; rfl
  | bl b => cases h; simp [isN]
  | int b => cases h; simp [isN]
  | str b => cases h; simp [isN]
  | ty b => cases h; simp [isN]
  | tup b => cases h; simp [isN]
  | lst b => obtain ⟨a, vs, rfl, _⟩ := h; simp [isN]
  | scr b => cases h; simp [isN]
  | ptup b => cases h; simp [isN]
  | dk b c => cases h; simp [isN]
  | dt b c => obtain ⟨a, vs, rfl, _⟩ := h; simp [isN]
  | obj b c e => cases h; simp [isN]
def isS (neg : Bool) (fa : Fe) : Ft := fun env => (fa env).bind fun p => (rd p.2 (fz p.1)).bind fun d => some (isN d != neg, p.2)
section
variable {a : Expr} {pos pos' : Pos} {j : Nat} {fa : Fe}
theorem is_core {neg : Bool} {σ : L2.St} {H : Hp} {Q : VK} (q : ∃ pa F R ad env b env', RS X.K cl pa F R H σ ad env ∧ isS neg fa env = some (b, env') ∧ ∀ F' ad' H', Le F F' → RS X.K cl pa F' R H' σ ad' env' → Q (.bl b) H') :
    tR X.K cl fa σ H fun x H1 => Q (.bl (decide (x = .non) != neg)) H1 := by
  obtain ⟨pa, F, R, ad, env, rv, env', S, hf, k⟩ := q
  unfold isS at hf
  obtain ⟨⟨r1, e1⟩, h1, hf⟩ := Option.bind_eq_some_iff.mp hf
  obtain ⟨d1, h3, hf⟩ := Option.bind_eq_some_iff.mp hf
  cases hf
  refine ⟨pa, F, R, ad, env, _, _, S, h1, fun F1 ad1 H1 x le1 S1 a1 => ?_⟩
  obtain ⟨G1, l1, T1, b1⟩ := S1.fzz a1
  rw [isN_of (T1.read b1 h3)]
  exact k G1 ad1 H1 (le1.trans l1) T1
theorem pc_isZ (ha : PE X a (tR X.K cl fa)) : PC X .Is a (.Constant .none j pos') (fun σ H Q => ∃ pa F R ad env b env', RS X.K cl pa F R H σ ad env ∧ isS false fa env = some (b, env') ∧ ∀ F' ad' H', Le F F' → RS X.K cl pa F' R H' σ ad' env' → Q (.bl b) H') :=
  ⟨fun pins s σ H Q I q => (pc_isN ha).run pins s σ H Q I (by have := is_core q; simp only [Bool.bne_false] at this; exact this)⟩
theorem pc_notZ (ha : PE X a (tR X.K cl fa)) : PC X .IsNot a (.Constant .none j pos') (fun σ H Q => ∃ pa F R ad env b env', RS X.K cl pa F R H σ ad env ∧ isS true fa env = some (b, env') ∧ ∀ F' ad' H', Le F F' → RS X.K cl pa F' R H' σ ad' env' → Q (.bl b) H') :=
  ⟨fun pins s σ H Q I q => (pc_notN ha).run pins s σ H Q I (by have := is_core q; simp only [Bool.bne_true] at this; exact this)⟩
theorem tV_core {f : Ft} {σ : L2.St} {H : Hp} {Q : VK} (q : tR X.K cl (tV f) σ H Q) : ∃ pa F R ad env b env', RS X.K cl pa F R H σ ad env ∧ f env = some (b, env') ∧ ∀ F' ad' H', Le F F' → RS X.K cl pa F' R H' σ ad' env' → Q (.bl b) H' := by
  obtain ⟨pa, F, R, ad, env, rv, env', S, hf, k⟩ := q
  unfold tV at hf
  obtain ⟨⟨b, e1⟩, h1, hf⟩ := Option.bind_eq_some_iff.mp hf
  cases hf
  exact ⟨pa, F, R, ad, env, b, _, S, h1, fun F' ad' H' le S' => k F' ad' H' _ le S' (.bl b)⟩
theorem tT_core {f : Ft} {σ : L2.St} {H : Hp} {Q : Bool → Hp → Prop} (q : tT X.K cl f σ H Q) : ∃ pa F R ad env b env', RS X.K cl pa F R H σ ad env ∧ f env = some (b, env') ∧ ∀ F' ad' H', Le F F' → RS X.K cl pa F' R H' σ ad' env' → (∃ c, (V.bl b) = .bl c ∧ Q c H') := by
  obtain ⟨pa, F, R, ad, env, rv, env', S, hf, k⟩ := q
  exact ⟨pa, F, R, ad, env, rv, _, S, hf, fun F' ad' H' le S' => ⟨rv, rfl, k F' ad' H' le S'⟩⟩
theorem pr_isN (ha : PE X a (tR X.K cl fa)) : PE X (.Compare a [.Is] [.Constant .none j pos'] pos) (tR X.K cl (tV (isS false fa))) := PE_weak (pe_cmp (pc_isZ ha)) fun _ _ _ q => tV_core q
theorem pr_notN (ha : PE X a (tR X.K cl fa)) : PE X (.Compare a [.IsNot] [.Constant .none j pos'] pos) (tR X.K cl (tV (isS true fa))) := PE_weak (pe_cmp (pc_notZ ha)) fun _ _ _ q => tV_core q
theorem pq_isN (ha : PE X a (tR X.K cl fa)) : PT X (.Compare a [.Is] [.Constant .none j pos'] pos) (tT X.K cl (isS false fa)) := PT_weak (pt_cmp (pc_isZ ha)) fun _ _ _ q => tT_core q
theorem pq_notN (ha : PE X a (tR X.K cl fa)) : PT X (.Compare a [.IsNot] [.Constant .none j pos'] pos) (tT X.K cl (isS true fa)) := PT_weak (pt_cmp (pc_notZ ha)) fun _ _ _ q => tT_core q
end
/-! ### in, not in: an int among ints -/
def inG (neg : Bool) : D → D → Option Bool
  | .int i, .tup b => (intsOf b).bind fun ns => some (decide (i ∈ ns) != neg)
  | _, _ => none
theorem inV_ints (i : Int) : ∀ (ns : List Int), inV (.int i) (ns.map V.int) = decide (i ∈ ns)
  | [] => by simp [inV]
  | n :: r => by
    have h := inV_ints i r
    unfold inV at h ⊢
    rw [List.map_cons, List.any_cons, h]
    show ((n == i) || decide (i ∈ r)) = decide (i ∈ n :: r)
    by_cases e : n = i
    · subst e; simp
    · have e' : ¬ i = n := fun z => e z.symm
      simp [e, e']
theorem flat_ints : ∀ (ns : List Int), (ns.map V.int).all flatV = true
  | [] => rfl
  | n :: r => by rw [List.map_cons, List.all_cons, flat_ints r]; rfl
theorem in_ok {neg : Bool} : Op2 K cl (bRes (inG neg)) (rIn K neg) := by
  intro F H x y d e rv Q le hx hy hg res
  obtain ⟨b, h1, hg⟩ := Option.bind_eq_some_iff.mp hg
  cases hg
  unfold inG at h1
  split at h1
  · obtain ⟨ns, h2, h1⟩ := Option.bind_eq_some_iff.mp h1
    cases h1
    rw [intsOf_eq h2] at hy
    obtain ⟨p, vs, rfl, e1, a1⟩ := at_tup hy
    rw [a1.intsV] at e1
    rw [at_int hx]
    refine ⟨p, ns.map V.int, rfl, .inr (SqT.of (le _ _ e1)), rfl, flat_ints ns, ?_⟩
    rw [inV_ints]
    have := res.dat0 (v := V.bl (decide (_ ∈ ns) != neg)) (.bl _)
    cases neg <;> simpa using this
  · cases h1
/-! ### items -/
def ixG : D → D → Option Rv
  | .lst ds, .int i => (atI ds i).bind fun d => some (.dat d)
  | .tup ds, .int i => (atI ds i).bind fun d => some (.dat d)
  | _, _ => none
theorem AtAll.atI {F : Hp} {vs : List V} {ds : List D} {i : Int} {d : D} (h : AtAll K cl F vs ds) (e : L2.atI ds i = some d) : ∃ v, L2.atI vs i = some v ∧ At K cl F v d := by
  unfold L2.atI at e ⊢
  rw [h.length]
  obtain ⟨j, h1, h2⟩ := Option.bind_eq_some_iff.mp e
  obtain ⟨v, h3, h4⟩ := h.get h2
  exact ⟨v, Option.bind_eq_some_iff.mpr ⟨j, h1, h3⟩, h4⟩
def rIxZ (K : PySem.W.Frag) : R2 := fun x y H Q => rIxL K x y H Q ∨ rIxT K x y H Q
theorem ix_seqZ : IxR X (rIxZ X.K) := ix_list.or ix_tup
theorem ix_ok : Op2 K cl ixG (rIxZ K) := by
  intro F H x y d e rv Q le hx hy hg res
  unfold ixG at hg
  split at hg
  · obtain ⟨z, h1, hg⟩ := Option.bind_eq_some_iff.mp hg
    cases hg
    obtain ⟨p, vs, rfl, e1, a1⟩ := hx
    obtain ⟨v, h2, h3⟩ := a1.atI h1
    rw [at_int hy]
    exact .inl ⟨p, vs, _, v, rfl, rfl, SqL.of e1, h2, res.dat0 h3⟩
  · obtain ⟨z, h1, hg⟩ := Option.bind_eq_some_iff.mp hg
    cases hg
    obtain ⟨p, vs, rfl, e1, a1⟩ := at_tup hx
    obtain ⟨v, h2, h3⟩ := a1.atI h1
    rw [at_int hy]
    exact .inr ⟨p, vs, _, v, rfl, rfl, SqT.of (le _ _ e1), h2, res.dat0 h3⟩
  · cases hg
/-! ### slices -/
abbrev Fo := En → Option (Option Int × En)
def tO (K : PySem.W.Frag) (cl : Str → Addr) (f : Fo) : TO := fun σ H Q => ∃ pa F R ad env o env', RS K cl pa F R H σ ad env ∧ f env = some (o, env') ∧ ∀ F' ad' H', Le F F' → RS K cl pa F' R H' σ ad' env' → Q o H'
def noO : Fo := fun env => some (none, env)
def intOf : D → Option Int
  | .int i => some i
  | _ => none
def soO (f : Fe) : Fo := fun env => (f env).bind fun p => (rd p.2 (fz p.1)).bind fun d => (intOf d).bind fun i => some (some i, p.2)
theorem PO_weak {X : Cx} {e : Option Expr} {t t' : TO} (h : PO X e t) (w : ∀ σ H Q, t' σ H Q → t σ H Q) : PO X e t' := ⟨fun pins s σ H Q I q => h.run pins s σ H Q I (w σ H Q q)⟩
theorem po_noZ : PO X none (tO X.K cl noO) := by
  refine PO_weak po_none fun σ H Q q => ?_
  obtain ⟨pa, F, R, ad, env, rv, env', S, hf, k⟩ := q
  cases hf
  exact k F ad H (Le.refl _) S
theorem po_soZ {e : Expr} {f : Fe} (h : PE X e (tR X.K cl f)) : PO X (some e) (tO X.K cl (soO f)) := by
  refine PO_weak (po_some h) fun σ H Q q => ?_
  obtain ⟨pa, F, R, ad, env, rv, env', S, hf, k⟩ := q
  unfold soO at hf
  obtain ⟨⟨r1, e1⟩, h1, hf⟩ := Option.bind_eq_some_iff.mp hf
  obtain ⟨d1, h3, hf⟩ := Option.bind_eq_some_iff.mp hf
  obtain ⟨i, h5, hf⟩ := Option.bind_eq_some_iff.mp hf
  cases hf
  refine ⟨pa, F, R, ad, env, _, _, S, h1, fun F1 ad1 H1 x le1 S1 a1 => ?_⟩
  obtain ⟨G1, l1, T1, b1⟩ := S1.fzz a1
  have t1 := T1.read b1 h3
  unfold intOf at h5
  split at h5
  · cases h5; rw [at_int t1]; exact ⟨_, rfl, k G1 ad1 H1 (le1.trans l1) T1⟩
  · cases h5
def cutD {α : Type} (xs : List α) (lo hi : Option Int) : List α := (xs.drop (HT.sIx xs.length 0 lo)).take (HT.sIx xs.length xs.length hi - HT.sIx xs.length 0 lo)
theorem AtAll.cut {F : Hp} {vs : List V} {ds : List D} (h : AtAll K cl F vs ds) (lo hi : Option Int) : AtAll K cl F (cutV vs lo hi) (cutD ds lo hi) := by
  unfold cutV cutD
  rw [h.length]
  exact (h.drop _).take _
def cutG (d : D) (lo hi : Option Int) : Option Rv := match d with
  | .lst ds => some (.own (.lst (cutD ds lo hi)))
  | .tup ds => some (.dat (.tup (cutD ds lo hi)))
  | _ => none
def slS (fa : Fe) (fl fh : Fo) : Fe := fun env => (fa env).bind fun p => (fl p.2).bind fun q => (fh q.2).bind fun r => (rd r.2 (fz p.1)).bind fun d => (cutG d q.1 r.1).bind fun z => some (z, r.2)
theorem pr_sl {e : Expr} {lo hi : Option Expr} {pos p2 : Pos} {fa : Fe} {fl fh : Fo} (he : PE X e (tR X.K cl fa)) (hl : PO X lo (tO X.K cl fl)) (hu : PO X hi (tO X.K cl fh)) : PE X (.Subscript e (.Slice lo hi none p2) pos) (tR X.K cl (slS fa fl fh)) := by
  refine PE_weak (pe_slice (sl_tupA.or sl_list) he hl hu) fun σ H Q q => ?_
  obtain ⟨pa, F, R, ad, env, rv, env', S, hf, k⟩ := q
  unfold slS at hf
  obtain ⟨⟨r1, e1⟩, h1, hf⟩ := Option.bind_eq_some_iff.mp hf
  obtain ⟨⟨o1, e2⟩, h2, hf⟩ := Option.bind_eq_some_iff.mp hf
  obtain ⟨⟨o2, e3⟩, h3, hf⟩ := Option.bind_eq_some_iff.mp hf
  obtain ⟨d1, h4, hf⟩ := Option.bind_eq_some_iff.mp hf
  obtain ⟨z, h5, hf⟩ := Option.bind_eq_some_iff.mp hf
  cases hf
  refine ⟨pa, F, R, ad, env, _, _, S, h1, fun F1 ad1 H1 x le1 S1 a1 => ?_⟩
  obtain ⟨G1, l1, T1, b1⟩ := S1.fzz a1
  refine ⟨pa, G1, R, ad1, _, _, _, T1, h2, fun F2 ad2 H2 le2 S2 => ?_⟩
  refine ⟨pa, F2, R, ad2, _, _, _, S2, h3, fun F3 ad3 H3 le3 S3 => ?_⟩
  have t1 := S3.read (b1.mono (le2.trans le3)) h4
  have res : Res X.K cl F3 H3 rv Q := S3.res fun F4 ad4 H4 v le4 S4 a4 => k F4 ad4 H4 v ((((le1.trans l1).trans le2).trans le3).trans le4) S4 a4
  unfold cutG at h5
  split at h5
  · cases h5
    obtain ⟨p, vs, rfl, e1, a1⟩ := t1
    exact .inr ⟨p, vs, rfl, SqL.of e1, fun r hr => res.lst hr (a1.cut _ _)⟩
  · cases h5
    obtain ⟨p, vs, rfl, e1, a1⟩ := at_tup t1
    refine .inl ⟨p, vs, rfl, SqT.of (S3.fh _ _ e1), fun hw => ?_, fun hw r hr => res.tup S3.fh hr (a1.cut _ _)⟩
    have hc := a1.cut o1 o2
    refine res.dat0 (.tup e1 ?_)
    have : cutV vs o1 o2 = vs := by
      unfold cutV
      rw [hw.1, hw.2]; simp
    rw [this] at hc
    exact hc
  · cases h5
end
end Z

set_option Elab.async false
set_option linter.all false
set_option maxRecDepth 100000
set_option maxHeartbeats 1000000
/-! Built-ins, by values. -/
namespace Z
open PySem PySem.Spec PyProof.Rows L2
section
variable {K : PySem.W.Frag} {cl : Str → Addr} {F H : Hp} {v : V} {d : D} {X : Cx}
theorem pair1 {R : V → D → Prop} {xs : List V} {d : D} (h : Paired R xs [d]) : ∃ v, xs = [v] ∧ R v d := by
  cases h with | cons a b => cases b; exact ⟨_, rfl, a⟩
theorem pair2 {R : V → D → Prop} {xs : List V} {d e : D} (h : Paired R xs [d, e]) : ∃ v w, xs = [v, w] ∧ R v d ∧ R w e := by
  cases h with | cons a b => cases b with | cons c f => cases f; exact ⟨_, _, rfl, a, c⟩

def lenG : List D → Option Rv
  | [.lst ds] => some (.dat (.int ds.length))
  | [.tup ds] => some (.dat (.int ds.length))
  | [.scr ns] => some (.dat (.int ns.length))
  | [.ptup ds] => some (.dat (.int ds.length))
  | _ => none
theorem len_ok : OpL K cl lenG (fun xs H Q => ∃ p ys, xs = [.ref p] ∧ (SqL K H p ys ∨ SqT K H p ys) ∧ Q (.int ys.length) H) := by
  intro F H xs ds rv Q le hx hg res
  unfold lenG at hg
  split at hg
  · cases hg
    obtain ⟨v, rfl, h⟩ := pair1 hx
    obtain ⟨a, vs, rfl, e, al⟩ := h
    exact ⟨a, vs, rfl, .inl (SqL.of e), by rw [al.length]; exact res.dat0 (.int _)⟩
  · cases hg
    obtain ⟨v, rfl, h⟩ := pair1 hx
    obtain ⟨a, vs, rfl, e, al⟩ := at_tup h
    exact ⟨a, vs, rfl, .inr (SqT.of (le _ _ e)), by rw [al.length]; exact res.dat0 (.int _)⟩
  · cases hg
    obtain ⟨v, rfl, h⟩ := pair1 hx
    cases h with
    | scr e => exact ⟨_, _, rfl, .inl (seq_le le e), by rw [List.length_map]; exact res.dat0 (.int _)⟩
  · cases hg
    obtain ⟨v, rfl, h⟩ := pair1 hx
    obtain ⟨a, vs, o, rfl, e1, e2, al⟩ := at_ptup h
    exact ⟨a, _, rfl, .inr (sq_frz (le _ _ e1)), by rw [al.length]; exact res.dat0 (.int _)⟩
  · cases hg
def intG : List D → Option Rv
  | [.int i] => some (.dat (.int i))
  | [.bl b] => some (.dat (.int (if b then 1 else 0)))
  | _ => none
theorem int_ok : OpL K cl intG (fun xs H Q => (∃ i, xs = [.int i] ∧ Q (.int i) H) ∨ ∃ k, xs = [.bl k] ∧ Q (.int (if k then 1 else 0)) H) := by
  intro F H xs ds rv Q le hx hg res
  unfold intG at hg
  split at hg
  · cases hg
    obtain ⟨v, rfl, h⟩ := pair1 hx
    rw [at_int h]; exact .inl ⟨_, rfl, res.dat0 (.int _)⟩
  · cases hg
    obtain ⟨v, rfl, h⟩ := pair1 hx
    rw [at_bl h]; exact .inr ⟨_, rfl, res.dat0 (.int _)⟩
  · cases hg
def absG : List D → Option Rv
  | [.int i] => some (.dat (.int (if i < 0 then -i else i)))
  | _ => none
theorem abs_ok : OpL K cl absG (fun xs H Q => ∃ i, xs = [.int i] ∧ Q (.int (if i < 0 then -i else i)) H) := by
  intro F H xs ds rv Q le hx hg res
  unfold absG at hg
  split at hg
  · cases hg
    obtain ⟨v, rfl, h⟩ := pair1 hx
    rw [at_int h]; exact ⟨_, rfl, res.dat0 (.int _)⟩
  · cases hg
def tupleG : List D → Option Rv
  | [.lst ds] => some (.dat (.tup ds))
  | [.tup ds] => some (.dat (.tup ds))
  | _ => none
theorem tuple_ok : OpL K cl tupleG (fun xs H Q => ∃ p ys, xs = [.ref p] ∧ ((SqL K H p ys ∧ ∀ l, H l = none → Q (.ref l) (upd H l (.tup ys))) ∨ (SqT K H p ys ∧ Q (.ref p) H))) := by
  intro F H xs ds rv Q le hx hg res
  unfold tupleG at hg
  split at hg
  · cases hg
    obtain ⟨v, rfl, h⟩ := pair1 hx
    obtain ⟨a, vs, rfl, e, al⟩ := h
    exact ⟨a, vs, rfl, .inl ⟨SqL.of e, fun l hl => res.tup le hl al⟩⟩
  · cases hg
    obtain ⟨v, rfl, h⟩ := pair1 hx
    obtain ⟨a, vs, rfl, e, al⟩ := at_tup h
    exact ⟨a, vs, rfl, .inr ⟨SqT.of (le _ _ e), res.dat0 (.tup e al)⟩⟩
  · cases hg
def listG : List D → Option Rv
  | [.lst ds] => some (.own (.lst ds))
  | [.tup ds] => some (.own (.lst ds))
  | _ => none
theorem list_ok : OpL K cl listG (fun xs H Q => ∃ p ys, xs = [.ref p] ∧ (SqL K H p ys ∨ SqT K H p ys) ∧ ∀ l, H l = none → Q (.ref l) (upd H l (.lst ys))) := by
  intro F H xs ds rv Q le hx hg res
  unfold listG at hg
  split at hg
  · cases hg
    obtain ⟨v, rfl, h⟩ := pair1 hx
    obtain ⟨a, vs, rfl, e, al⟩ := h
    exact ⟨a, vs, rfl, .inl (SqL.of e), fun l hl => res.lst hl al⟩
  · cases hg
    obtain ⟨v, rfl, h⟩ := pair1 hx
    obtain ⟨a, vs, rfl, e, al⟩ := at_tup h
    exact ⟨a, vs, rfl, .inr (SqT.of (le _ _ e)), fun l hl => res.lst hl al⟩
  · cases hg
def blsOf : List D → Option (List Bool)
  | [] => some []
  | .bl b :: r => (blsOf r).bind fun bs => some (b :: bs)
  | _ => none
theorem blsOf_eq {ds : List D} {bs : List Bool} (h : blsOf ds = some bs) : ds = bs.map D.bl := by
  induction ds generalizing bs with
  | nil => cases h; rfl
  | cons d r ih =>
    cases d with
    | bl b =>
      change ((blsOf r).bind fun bs => some (b :: bs)) = some bs at h
      obtain ⟨ms, h1, h⟩ := Option.bind_eq_some_iff.mp h
      cases h
      rw [ih h1]; rfl
    | _ => cases h
theorem blsOf_map : ∀ (bs : List Bool), blsOf (bs.map D.bl) = some bs
  | [] => rfl
  | b :: r => by show (blsOf (r.map D.bl)).bind _ = _; rw [blsOf_map r]; rfl
theorem AtAll.blsV : ∀ {F : Hp} {vs : List V} {bs : List Bool}, AtAll K cl F vs (bs.map D.bl) → vs = bs.map V.bl
  | _, _, [], .nil => rfl
  | _, _, n :: r, .cons h t => by cases h; rw [AtAll.blsV t]; rfl
def allG : List D → Option Rv
  | [.lst ds] => (blsOf ds).bind fun bs => some (.dat (.bl (bs.all id)))
  | _ => none
def anyG : List D → Option Rv
  | [.lst ds] => (blsOf ds).bind fun bs => some (.dat (.bl (bs.any id)))
  | _ => none
theorem all_ok : OpL K cl allG (rAll K) := by
  intro F H xs ds rv Q le hx hg res
  unfold allG at hg
  split at hg
  · obtain ⟨bs, h1, hg⟩ := Option.bind_eq_some_iff.mp hg
    cases hg
    obtain ⟨v, rfl, h⟩ := pair1 hx
    obtain ⟨a, vs, rfl, e, al⟩ := h
    rw [blsOf_eq h1] at al
    rw [al.blsV] at e
    exact ⟨a, bs, rfl, SqL.of e, res.dat0 (.bl _)⟩
  · cases hg
theorem any_ok : OpL K cl anyG (rAny K) := by
  intro F H xs ds rv Q le hx hg res
  unfold anyG at hg
  split at hg
  · obtain ⟨bs, h1, hg⟩ := Option.bind_eq_some_iff.mp hg
    cases hg
    obtain ⟨v, rfl, h⟩ := pair1 hx
    obtain ⟨a, vs, rfl, e, al⟩ := h
    rw [blsOf_eq h1] at al
    rw [al.blsV] at e
    exact ⟨a, bs, rfl, SqL.of e, res.dat0 (.bl _)⟩
  · cases hg
def gcdG : List D → Option Rv
  | [.int i, .int j] => some (.dat (.int ((Nat.gcd i.natAbs j.natAbs : Nat) : Int)))
  | _ => none
theorem gcd_ok : OpL K cl gcdG rGcd := by
  intro F H xs ds rv Q le hx hg res
  unfold gcdG at hg
  split at hg
  · cases hg
    obtain ⟨v, w, rfl, h1, h2⟩ := pair2 hx
    rw [at_int h1, at_int h2]
    exact ⟨_, _, rfl, res.dat0 (.int _)⟩
  · cases hg
def lcmG : List D → Option Rv
  | [.int i, .int j] => if i.natAbs < Big ∧ j.natAbs < Big then some (.dat (.int ((Nat.lcm i.natAbs j.natAbs : Nat) : Int))) else none
  | _ => none
def rLcm : List V → Hp → VK → Prop := fun vs H Q => ∃ a b : Int, vs = [.int a, .int b] ∧ a.natAbs < Big ∧ b.natAbs < Big ∧ Q (.int ((Nat.lcm a.natAbs b.natAbs : Nat) : Int)) H
theorem log2_mul_lt {a b n m : Nat} (ha : a < 2 ^ n) (hb : b < 2 ^ m) : a * b < 2 ^ (n + m) := by
  rw [Nat.pow_add]
  exact Nat.mul_lt_mul'' ha hb
theorem cr_lcm : CallR X (.builtin "math.lcm") rLcm := by
  intro pins s σ H vs us Q I r h
  obtain ⟨a, b, rfl, ha, hb, q⟩ := h
  obtain ⟨t, u, rfl⟩ := Vals.int2 r
  have la := log2_Big ha
  have lb := log2_Big hb
  have l1 : (max 1 a.natAbs).log2 < 4096 := by
    rcases Nat.le_total 1 a.natAbs with z | z
    · rw [Nat.max_eq_right z]; exact la
    · rw [Nat.max_eq_left z]; decide
  have l2 : (max a.natAbs b.natAbs).log2 < 4096 := by
    rcases Nat.le_total a.natAbs b.natAbs with z | z
    · rw [Nat.max_eq_right z]; exact lb
    · rw [Nat.max_eq_left z]; exact la
  have e : (Nat.lcm 1 a.natAbs) = a.natAbs := by rw [Nat.lcm_one_left]
  have hs : ((((Nat.lcm 1 a.natAbs).lcm b.natAbs : Nat) : Int)).natAbs.log2 < bitsLine := by
    rw [e, Int.natAbs_natCast]
    rw [Big_eq] at ha hb
    have hl : a.natAbs.lcm b.natAbs < 2 ^ (4096 + 4096) := Nat.lt_of_le_of_lt (Nat.div_le_self _ _) (log2_mul_lt ha hb)
    have := PySem.Flt.log2_lt_of (by decide) hl
    have eb : bitsLine = 134217728 := by decide
    omega
  have g := (PySem.W.mg_run_lcm a t b u (by omega) (by omega) hs).meets (prog := X.prog)
  exact call_function_meets PySem.W.MGF.kind_lcm PySem.W.MGF.plain_lcm PySem.W.MGF.entry_lcm (PySem.W.MGF.args_lcm _ _) (PySem.W.mg_run_lcm a t b u (by omega) (by omega) hs).meets ⟨.int _, H, I.tok _, ⟨_, by rw [e]⟩, q⟩
theorem lcm_ok : OpL K cl lcmG rLcm := by
  intro F H xs ds rv Q le hx hg res
  unfold lcmG at hg
  split at hg
  · split at hg
    · rename_i hb
      cases hg
      obtain ⟨v, w, rfl, h1, h2⟩ := pair2 hx
      rw [at_int h1, at_int h2]
      exact ⟨_, _, rfl, hb.1, hb.2, res.dat0 (.int _)⟩
    · cases hg
  · cases hg
/-! ### isinstance -/
def kindD : D → Option String
  | .non => some "NoneType"
  | .bl _ => some "bool"
  | .int _ => some "int"
  | .str _ => some "str"
  | .tup _ => some "tuple"
  | .lst _ => some "list"
  | .dk _ _ => some "dict"
  | .dt _ _ => some "dict"
  | .ptup _ => some "tuple"
  | _ => none
def isTy (k n : String) : Bool := k == n || (k == "bool" && n == "int")
def tysOf : List D → Option (List String)
  | [] => some []
  | .ty n :: r => (tysOf r).bind fun ns => some (n :: ns)
  | _ => none
def okTy (n : String) : Bool := n == "int" || n == "bool" || n == "str" || n == "tuple" || n == "list"
theorem tysOf_eq {ds : List D} {ns : List String} (h : tysOf ds = some ns) : ds = ns.map D.ty := by
  induction ds generalizing ns with
  | nil => cases h; rfl
  | cons d r ih =>
    cases d with
    | ty b =>
      change ((tysOf r).bind fun bs => some (b :: bs)) = some ns at h
      obtain ⟨ms, h1, h⟩ := Option.bind_eq_some_iff.mp h
      cases h
      rw [ih h1]; rfl
    | _ => cases h
theorem kit_all : (["NoneType", "bool", "int", "str", "tuple", "list", "dict"].all fun k => ["int", "bool", "str", "tuple", "list"].all fun n => decide (kitB k n = some (isTy k n))) = true := by decide +kernel
theorem kit_of' {d : D} {k n : String} (h : kindD d = some k) (hn : okTy n = true) : kitB k n = some (isTy k n) := by
  have ha := List.all_eq_true.mp kit_all
  have hk : k ∈ ["NoneType", "bool", "int", "str", "tuple", "list", "dict"] := by cases d <;> cases h <;> decide
  have hb := List.all_eq_true.mp (ha k hk)
  have hm : n ∈ ["int", "bool", "str", "tuple", "list"] := by
    unfold okTy at hn
    simp only [Bool.or_eq_true, beq_iff_eq] at hn
    rcases hn with (((h | h) | h) | h) | h <;> subst h <;> decide
  exact of_decide_eq_true (hb n hm)
theorem ty_of {k : String} (h : kindD d = some k) (le : Le F H) (a : AtT K cl F H v d) : TyX K H v (.type k) := by
  cases d with
  | non => cases h; cases a; exact .base .non
  | bl b => cases h; cases a; exact .base (.bl _)
  | int i => cases h; cases a; exact .base (.int _)
  | str i => cases h; cases a; exact .base (.str _)
  | tup ds => cases h; obtain ⟨p, vs, rfl, e, _⟩ := at_tup a; exact .base (.tup (le _ _ e))
  | lst ds => cases h; obtain ⟨p, vs, rfl, e, _⟩ := a; exact .base (.lst e)
  | dk ks ds => cases h; cases a with | dk e _ _ => exact .base (.dK (le _ _ e))
  | dt ks ds => cases h; obtain ⟨p, vs, rfl, e, _⟩ := a; exact .base (.dT e)
  | ptup ds => cases h; obtain ⟨p, vs, o, rfl, e, _⟩ := at_ptup a; exact .fTuple (le _ _ e)
  | _ => cases h
def isiG : List D → Option Rv
  | [x, .ty n] => (kindD x).bind fun k => if okTy n = true then some (.dat (.bl (isTy k n))) else none
  | [x, .tup cs] => (kindD x).bind fun k => (tysOf cs).bind fun ns => if ns.all okTy = true then some (.dat (.bl (ns.any fun n => isTy k n))) else none
  | _ => none
def rIsiZ (K : PySem.W.Frag) : List V → Hp → VK → Prop := fun xs H Q => rIsi K xs H Q ∨ rIsiT K xs H Q
theorem call_isiZ : CallR X (.builtin "isinstance") (rIsiZ X.K) := call_isi.or call_isiT
theorem kitAny_tys {k : String} (hk : ∀ n, okTy n = true → kitB k n = some (isTy k n)) : ∀ (ns : List String), ns.all okTy = true → PySem.W.kitAny K (.type k) (ns.map Value.type) = some (ns.any fun n => isTy k n)
  | [], _ => kitAny_nil
  | n :: r, h => by
    rw [List.all_cons, Bool.and_eq_true_iff] at h
    refine kitAny_cons (kit_ty (hk n h.1)) (fun hb => ?_) (fun hb => ?_)
    · rw [kitAny_tys hk r h.2, List.any_cons, hb, Bool.false_or]
    · rw [List.any_cons, hb, Bool.true_or]
theorem AtAll.tysV : ∀ {F : Hp} {vs : List V} {ns : List String}, AtAll K cl F vs (ns.map D.ty) → vs = ns.map V.ty
  | _, _, [], .nil => rfl
  | _, _, n :: r, .cons h t => by cases h; rw [AtAll.tysV t]; rfl
theorem cls_tys : ∀ (ns : List String), Paired ClsV (ns.map V.ty) (ns.map Value.type)
  | [] => .nil
  | n :: r => .cons (.ty n) (cls_tys r)
theorem isi_ok : OpL K cl isiG (rIsiZ K) := by
  intro F H xs ds rv Q le hx hg res
  unfold isiG at hg
  split at hg
  · obtain ⟨k, h1, hg⟩ := Option.bind_eq_some_iff.mp hg
    split at hg
    · rename_i hn
      cases hg
      obtain ⟨v, w, rfl, a1, a2⟩ := pair2 hx
      rw [at_ty a2]
      exact .inl ⟨v, _, _, _, _, rfl, .ty _, ty_of h1 le a1, kit_ty (kit_of' h1 hn), res.dat0 (.bl _)⟩
    · cases hg
  · obtain ⟨k, h1, hg⟩ := Option.bind_eq_some_iff.mp hg
    obtain ⟨ns, h2, hg⟩ := Option.bind_eq_some_iff.mp hg
    split at hg
    · rename_i hn
      cases hg
      obtain ⟨v, w, rfl, a1, a2⟩ := pair2 hx
      rw [tysOf_eq h2] at a2
      obtain ⟨p, vs, rfl, e, al⟩ := at_tup a2
      rw [al.tysV] at e
      exact .inr ⟨v, p, _, _, _, _, rfl, le _ _ e, cls_tys ns, ty_of h1 le a1, kitAny_tys (fun n hn => kit_of' h1 hn) ns hn, res.dat0 (.bl _)⟩
    · cases hg
  · cases hg
end
end Z

set_option Elab.async false
set_option linter.all false
set_option maxRecDepth 100000
set_option maxHeartbeats 1000000
/-! Targets, what is walked, comprehensions. -/
namespace Z
open PySem PySem.Spec PyProof.Rows L2
section
variable (K : PySem.W.Frag) (cl : Str → Addr)
abbrev Fb := Z.D → En → Option En
abbrev Fbs := List Z.D → En → Option En
abbrev Fi := En → Option (List Z.D × En)
def tG (ws : List Nat) (b : Fb) : TG := fun v σ H Q => ∃ pa F R ad env d env', RS K cl pa F R H σ ad env ∧ At K cl F v d ∧ b d env = some env' ∧ ∀ F' ad' σ' H', Le F F' → RS K cl pa F' R H' σ' ad' env' → wipe σ' ws = wipe σ ws → Q σ' H'
def tGs (ws : List Nat) (b : Fbs) : TGs := fun vs σ H Q => ∃ pa F R ad env ds env', RS K cl pa F R H σ ad env ∧ AtAll K cl F vs ds ∧ b ds env = some env' ∧ ∀ F' ad' σ' H', Le F F' → RS K cl pa F' R H' σ' ad' env' → wipe σ' ws = wipe σ ws → Q σ' H'
structure IterOf (F : Hp) (J : It) (ds : List Z.D) : Prop where
  go : ∀ F2 H i, Le F F2 → Le F2 H → i < ds.length → J.go i H
  stop : ∀ F2 H, Le F F2 → Le F2 H → J.stop ds.length H
  yld : ∀ F2 H i x H' d, Le F F2 → Le F2 H → ds[i]? = some d → J.yld i H x H' → ∃ F3, Grow F2 H F3 H' ∧ At K cl F3 x d
def tI (f : Fi) : TI := fun σ H R => ∃ pa F Rr ad env ds env', RS K cl pa F Rr H σ ad env ∧ f env = some (ds, env') ∧ ∀ F' ad' H' J, Le F F' → RS K cl pa F' Rr H' σ ad' env' → IterOf K cl F' J ds → R J H'
end
theorem PG_weak {X : Cx} {e : Expr} {t t' : TG} (h : PG X e t) (w : ∀ v σ H Q, t' v σ H Q → t v σ H Q) : PG X e t' := ⟨fun pins s σ H v u Q I r q => h.run pins s σ H v u Q I r (w v σ H Q q)⟩
theorem PG_or {X : Cx} {e : Expr} {t u : TG} (h : PG X e t) (h' : PG X e u) : PG X e (fun v σ H Q => t v σ H Q ∨ u v σ H Q) := ⟨fun pins s σ H v w Q I r q => q.elim (h.run pins s σ H v w Q I r) (h'.run pins s σ H v w Q I r)⟩
theorem PGs_weak {X : Cx} {e : List Expr} {t t' : TGs} (h : PGs X e t) (w : ∀ v σ H Q, t' v σ H Q → t v σ H Q) : PGs X e t' := ⟨fun pins s σ H v u Q I r q => h.run pins s σ H v u Q I r (w v σ H Q q)⟩
theorem PI_weak {X : Cx} {tg e : Expr} {t t' : TI} (h : PI X tg e t) (w : ∀ σ H Q, t' σ H Q → t σ H Q) : PI X tg e t' := ⟨fun pins s σ H R I q => h.run pins s σ H R I (w σ H R q)⟩
theorem PI_or {X : Cx} {tg e : Expr} {t u : TI} (h : PI X tg e t) (h' : PI X tg e u) : PI X tg e (fun σ H R => t σ H R ∨ u σ H R) := ⟨fun pins s σ H R I q => q.elim (h.run pins s σ H R I) (h'.run pins s σ H R I)⟩
section
variable {X : Cx} {cl : Str → Addr} {e : Expr} {pos : Pos} {ws : List Nat}
theorem wipe_in {σ : L2.St} {i : Nat} : ∀ {vs : List Nat}, i ∈ vs → (wipe σ vs)[i]? = if i < σ.length then some none else none
  | v :: vs, h => by
    unfold wipe
    by_cases e : v = i
    · subst e
      rw [List.getElem?_set, wipe_length]
      simp
    · rw [List.getElem?_set_ne e]
      exact wipe_in (by simpa [Ne.symm e] using h)
theorem wipe_out' {σ : L2.St} {i : Nat} : ∀ {vs : List Nat}, i ∉ vs → (wipe σ vs)[i]? = σ[i]?
  | [], _ => rfl
  | v :: vs, h => by
    unfold wipe
    rw [List.getElem?_set_ne (fun z => h (by simp [z])), wipe_out' (fun z => h (by simp [z]))]
theorem wipe_eq {σ τ : L2.St} {vs : List Nat} (hl : σ.length = τ.length) (h : ∀ i, i ∉ vs → σ[i]? = τ[i]?) : wipe σ vs = wipe τ vs := by
  refine List.ext_getElem? fun i => ?_
  by_cases hi : i ∈ vs
  · rw [wipe_in hi, wipe_in hi, hl]
  · rw [wipe_out' hi, wipe_out' hi, h i hi]
theorem wipe_set {σ : L2.St} {i : Nat} {x : Option V} {vs : List Nat} (h : i ∈ vs) : wipe (σ.set i x) vs = wipe σ vs :=
  wipe_eq (by simp) fun j hj => List.getElem?_set_ne (fun z : i = j => hj (by rw [← z]; exact h))
theorem wipe_wipe {σ : L2.St} {vs : List Nat} : wipe (wipe σ vs) vs = wipe σ vs :=
  wipe_eq (wipe_length _ _) fun j hj => wipe_out' hj
/-! ### targets -/
def nmB (i : Nat) : Fb := fun d env => if i < env.length then some (env.set i (some (.dat d))) else none
theorem pg_nm (i : Nat) {x : Str} (hN : X.N.Nodup) (hw : i ∈ ws := by decide) (hi : X.N[i]? = some x := by rfl) (hx : Loc X.env.scope x := by first | exact Or.inl rfl | exact Or.inr rfl) (hf : X.fn x = true ∨ X.env.scope.names.lookup x = some .local := by first | exact .inl rfl | exact .inr rfl) : PG X (.Name x pos) (tG X.K cl ws (nmB i)) := by
  refine PG_weak (pg_name hN hi hx hf) fun v σ H Q q => ?_
  obtain ⟨pa, F, R, ad, env, d, env', S, a, hb, k⟩ := q
  unfold nmB at hb
  split at hb
  · rename_i hl; cases hb
    exact k F ad _ H (Le.refl _) (S.setDat hl a) (wipe_set hw)
  · cases hb
def nilB : Fbs := fun ds env => match ds with
  | [] => some env
  | _ => none
def consB (b : Fb) (bs : Fbs) : Fbs := fun ds env => match ds with
  | d :: r => (b d env).bind fun e => bs r e
  | [] => none
theorem pgs_nilZ : PGs X [] (tGs X.K cl ws nilB) := by
  refine PGs_weak pgs_nil fun v σ H Q q => ?_
  obtain ⟨pa, F, R, ad, env, ds, env', S, a, hb, k⟩ := q
  unfold nilB at hb
  split at hb
  · cases hb; cases a; exact ⟨rfl, k F ad σ H (Le.refl _) S rfl⟩
  · cases hb
theorem pgs_consZ {es : List Expr} {b : Fb} {bs : Fbs} (h1 : PG X e (tG X.K cl ws b)) (h2 : PGs X es (tGs X.K cl ws bs)) (hs : (assignEach (e :: es) X.env).map (·.2) = assign e X.env :: (assignEach es X.env).map (·.2) := by rfl) : PGs X (e :: es) (tGs X.K cl ws (consB b bs)) := by
  refine PGs_weak (pgs_cons h1 h2 hs) fun v σ H Q q => ?_
  obtain ⟨pa, F, R, ad, env, ds, env', S, a, hb, k⟩ := q
  unfold consB at hb
  split at hb
  · obtain ⟨e1, h3, hb⟩ := Option.bind_eq_some_iff.mp hb
    cases a with
    | cons a1 a2 =>
      exact ⟨_, _, rfl, pa, F, R, ad, env, _, _, S, a1, h3, fun F1 ad1 σ1 H1 le1 S1 w1 => ⟨pa, F1, R, ad1, _, _, _, S1, a2.mono le1, hb, fun F2 ad2 σ2 H2 le2 S2 w2 => k F2 ad2 σ2 H2 (le1.trans le2) S2 (w2.trans w1)⟩⟩
  · cases hb
def tupB (n : Nat) (bs : Fbs) : Fb := fun d env => match d with
  | .tup ds => if ds.length = n then bs ds env else none
  | .lst ds => if ds.length = n then bs ds env else none
  | _ => none
theorem pg_tupZ {es : List Expr} {kk : Nat} {bs : Fbs} {n : Nat} (hc : X.calm = true) (h : PGs X es (tGs X.K cl ws bs)) (hn : (assignEach es X.env).length = n := by rfl) (hst : (assignEach es X.env).findIdx? (·.1) = none := by rfl) : PG X (.Tuple es kk pos) (tG X.K cl ws (tupB n bs)) := by
  refine PG_weak (PG_or (pg_tup hc h hn hst) (pg_unl hc h hn hst)) fun v σ H Q q => ?_
  obtain ⟨pa, F, R, ad, env, d, env', S, a, hb, k⟩ := q
  unfold tupB at hb
  split at hb
  · split at hb
    · rename_i hl
      cases a with
      | tup e1 a1 => exact .inl ⟨_, _, rfl, SqT.of (S.fh _ _ e1), by rw [a1.length]; exact hl, pa, F, R, ad, env, _, _, S, a1, hb, k⟩
    · cases hb
  · split at hb
    · rename_i hl
      cases a with
      | lst e1 a1 => exact .inr ⟨_, _, rfl, SqL.of (S.fh _ _ e1), by rw [a1.length]; exact hl, pa, F, R, ad, env, _, _, S, a1, hb, k⟩
    · cases hb
  · cases hb
theorem at_lstF {K : PySem.W.Frag} {F : Hp} {v : V} {ds : List Z.D} (h : At K cl F v (.lst ds)) : ∃ a vs, v = .ref a ∧ F a = some (.lst vs) ∧ AtAll K cl F vs ds := by cases h with | lst h1 h2 => exact ⟨_, _, rfl, h1, h2⟩
theorem at_tupF {K : PySem.W.Frag} {F : Hp} {v : V} {ds : List Z.D} (h : At K cl F v (.tup ds)) : ∃ a vs, v = .ref a ∧ F a = some (.tup vs) ∧ AtAll K cl F vs ds := by cases h with | tup h1 h2 => exact ⟨_, _, rfl, h1, h2⟩
theorem at_scrF {K : PySem.W.Frag} {F : Hp} {v : V} {ns : List Int} (h : At K cl F v (.scr ns)) : ∃ a, v = .ref a ∧ SqL K F a (ns.map V.int) := by cases h with | scr h1 => exact ⟨_, rfl, h1⟩
/-! ### what is walked -/
def itemsOf : Z.D → Option (List Z.D)
  | .lst ds => some ds
  | .tup ds => some ds
  | .scr ns => some (ns.map Z.D.int)
  | .ptup ds => some ds
  | _ => none
def seqI (f : Fe) : Fi := fun env => (f env).bind fun p => (kp p.2 (fz p.1)).bind fun q => (itemsOf q.1).bind fun ds => some (ds, q.2)
theorem get_lt {α : Type} {l : List α} {i : Nat} {x : α} (h : l[i]? = some x) : i < l.length := (List.getElem?_eq_some_iff.mp h).1
theorem iter_lst {K : PySem.W.Frag} {F : Hp} {a : Addr} {vs : List V} {ds : List Z.D} (h : ∀ H, Le F H → SqL K H a vs) (al : AtAll K cl F vs ds) : IterOf K cl F (Itl K a) ds where
  go := fun F2 H i l1 l2 hi => by
    have hv : i < vs.length := by rw [al.length]; exact hi
    exact ⟨vs, vs[i], h H (l1.trans l2), List.getElem?_eq_getElem hv⟩
  stop := fun F2 H l1 l2 => ⟨vs, h H (l1.trans l2), by rw [al.length]; exact Nat.le_refl _⟩
  yld := fun F2 H i x H' d l1 l2 hd hy => by
    obtain ⟨rfl, hy⟩ := hy
    obtain ⟨v, h1, h2⟩ := al.get hd
    have := hy vs (h H' (l1.trans l2))
    rw [h1] at this; cases this
    exact ⟨F2, .no, h2.mono l1⟩
theorem iter_tup {K : PySem.W.Frag} {F : Hp} {a : Addr} {vs : List V} {ds : List Z.D} (h : ∀ H, Le F H → SqT K H a vs) (al : AtAll K cl F vs ds) : IterOf K cl F (Itt K a) ds where
  go := fun F2 H i l1 l2 hi => by
    have hv : i < vs.length := by rw [al.length]; exact hi
    exact ⟨vs, vs[i], h H (l1.trans l2), List.getElem?_eq_getElem hv⟩
  stop := fun F2 H l1 l2 => ⟨vs, h H (l1.trans l2), by rw [al.length]; exact Nat.le_refl _⟩
  yld := fun F2 H i x H' d l1 l2 hd hy => by
    obtain ⟨rfl, hy⟩ := hy
    obtain ⟨v, h1, h2⟩ := al.get hd
    have := hy vs (h H' (l1.trans l2))
    rw [h1] at this; cases this
    exact ⟨F2, .no, h2.mono l1⟩
theorem pi_seqZ {tg : Expr} {f : Fe} (h : PE X e (tR X.K cl f)) : PI X tg e (tI X.K cl (seqI f)) := by
  refine PI_weak (PI_or (pi_list h) (pi_tup h)) fun σ H R q => ?_
  obtain ⟨pa, F, Rr, ad, env, ds, env', S, hf, k⟩ := q
  unfold seqI at hf
  obtain ⟨⟨r1, e1⟩, h1, hf⟩ := Option.bind_eq_some_iff.mp hf
  obtain ⟨⟨d, e2⟩, h2, hf⟩ := Option.bind_eq_some_iff.mp hf
  obtain ⟨its, h3, hf⟩ := Option.bind_eq_some_iff.mp hf
  cases hf
  change itemsOf d = some _ at h3
  cases d with
  | lst ds =>
    cases h3
    refine .inl ⟨pa, F, Rr, ad, env, _, _, S, h1, fun F1 ad1 H1 x le1 S1 a1 => ?_⟩
    obtain ⟨G1, l1, T1, b1⟩ := S1.fzz a1
    obtain ⟨G2, l2, T2, b2⟩ := T1.keep b1 h2
    obtain ⟨p, vs, rfl, e3, al⟩ := at_lstF b2
    exact ⟨_, rfl, ⟨_, SqL.of (T2.fh _ _ e3)⟩, k G2 ad1 H1 _ ((le1.trans l1).trans l2) T2 (iter_lst (fun H h => SqL.of (h _ _ e3)) al)⟩
  | tup ds =>
    cases h3
    refine .inr ⟨pa, F, Rr, ad, env, _, _, S, h1, fun F1 ad1 H1 x le1 S1 a1 => ?_⟩
    obtain ⟨G1, l1, T1, b1⟩ := S1.fzz a1
    obtain ⟨G2, l2, T2, b2⟩ := T1.keep b1 h2
    obtain ⟨p, vs, rfl, e3, al⟩ := at_tupF b2
    exact ⟨_, rfl, ⟨_, SqT.of (T2.fh _ _ e3)⟩, k G2 ad1 H1 _ ((le1.trans l1).trans l2) T2 (iter_tup (fun H h => SqT.of (h _ _ e3)) al)⟩
  | scr ns =>
    cases h3
    refine .inl ⟨pa, F, Rr, ad, env, _, _, S, h1, fun F1 ad1 H1 x le1 S1 a1 => ?_⟩
    obtain ⟨G1, l1, T1, b1⟩ := S1.fzz a1
    obtain ⟨G2, l2, T2, b2⟩ := T1.keep b1 h2
    obtain ⟨p, rfl, e3⟩ := at_scrF b2
    exact ⟨_, rfl, ⟨_, seq_le T2.fh e3⟩, k G2 ad1 H1 _ ((le1.trans l1).trans l2) T2 (iter_lst (fun H h => seq_le h e3) (AtAll.ints _))⟩
  | ptup ds =>
    cases h3
    refine .inr ⟨pa, F, Rr, ad, env, _, _, S, h1, fun F1 ad1 H1 x le1 S1 a1 => ?_⟩
    obtain ⟨G1, l1, T1, b1⟩ := S1.fzz a1
    obtain ⟨G2, l2, T2, b2⟩ := T1.keep b1 h2
    obtain ⟨p, vs, o, rfl, e3, _, al⟩ := at_ptup (H := H1) (show AtT X.K cl G2 H1 x (.ptup ds) from b2)
    exact ⟨_, rfl, ⟨_, sq_frz (T2.fh _ _ e3)⟩, k G2 ad1 H1 _ ((le1.trans l1).trans l2) T2 (iter_tup (fun H h => sq_frz (h _ _ e3)) al)⟩
  | _ => cases h3
/-- lo, lo + 1, .., n of them -/
def rngD (lo : Int) (n : Nat) : List Z.D := (List.range n).map fun (i : Nat) => Z.D.int (lo + (i : Int))
theorem rngD_length (lo : Int) (n : Nat) : (rngD lo n).length = n := by unfold rngD; simp
theorem rngD_get {lo : Int} {n i : Nat} (h : i < n) : (rngD lo n)[i]? = some (.int (lo + i)) := by unfold rngD; simp [h]
theorem iter_rng {K : PySem.W.Frag} {F : Hp} (lo : Int) (n : Nat) : IterOf K cl F (Itr lo n) (rngD lo n) where
  go := fun F2 H i l1 l2 hi => by rw [rngD_length] at hi; exact hi
  stop := fun F2 H l1 l2 => by rw [rngD_length]; exact Nat.le_refl n
  yld := fun F2 H i x H' d l1 l2 hd hy => by
    obtain ⟨rfl, rfl⟩ := hy
    have hi := get_lt hd
    rw [rngD_length] at hi
    rw [rngD_get hi] at hd
    cases hd
    exact ⟨F2, .no, .int _⟩
def rngI1 (fs : Fa) : Fi := fun env => (fs env).bind fun p => (rdL p.2 p.1).bind fun ds => match ds with
  | [.int j] => if j.natAbs < 2 ^ 61 then some (rngD 0 j.toNat, p.2) else none
  | _ => none
def rngI2 (fs : Fa) : Fi := fun env => (fs env).bind fun p => (rdL p.2 p.1).bind fun ds => match ds with
  | [.int i, .int j] => if i.natAbs < 2 ^ 61 ∧ j.natAbs < 2 ^ 61 then some (rngD i (j - i).toNat, p.2) else none
  | _ => none
theorem pi_rng1 {tg a : Expr} {p : Pos} {fs : Fa} (hm : X.mg "range" = none) (ha : PA X [a] (tL X.K cl fs)) (hg : Gl X "range" := by rfl) (hs : starEach [a] X.env = [(false, eval a X.env)] := by rfl) : PI X tg (.Call (.Name "range" p) [a] [] pos) (tI X.K cl (rngI1 fs)) := by
  refine PI_weak (pi_range1 hg hm ha hs) fun σ H R q => ?_
  obtain ⟨pa, F, Rr, ad, env, ds, env', S, hf, k⟩ := q
  unfold rngI1 at hf
  obtain ⟨⟨r1, e1⟩, h1, hf⟩ := Option.bind_eq_some_iff.mp hf
  obtain ⟨xs, h2, hf⟩ := Option.bind_eq_some_iff.mp hf
  split at hf
  · split at hf
    · rename_i j hj
      cases hf
      refine ⟨pa, F, Rr, ad, env, _, _, S, h1, fun F1 ad1 H1 vs le1 S1 a1 => ?_⟩
      obtain ⟨v, rfl, t⟩ := pair1 (S1.readL a1 h2)
      rw [at_int t]
      exact ⟨j, rfl, by omega, by omega, k F1 ad1 H1 _ le1 S1 (iter_rng 0 _)⟩
    · cases hf
  · cases hf
theorem pi_rng2 {tg a b : Expr} {p : Pos} {fs : Fa} (hm : X.mg "range" = none) (ha : PA X [a, b] (tL X.K cl fs)) (hg : Gl X "range" := by rfl) (hs : starEach [a, b] X.env = [(false, eval a X.env), (false, eval b X.env)] := by rfl) (hs2 : starEach [b] X.env = [(false, eval b X.env)] := by rfl) : PI X tg (.Call (.Name "range" p) [a, b] [] pos) (tI X.K cl (rngI2 fs)) := by
  refine PI_weak (pi_range2 hg hm ha hs hs2) fun σ H R q => ?_
  obtain ⟨pa, F, Rr, ad, env, ds, env', S, hf, k⟩ := q
  unfold rngI2 at hf
  obtain ⟨⟨r1, e1⟩, h1, hf⟩ := Option.bind_eq_some_iff.mp hf
  obtain ⟨xs, h2, hf⟩ := Option.bind_eq_some_iff.mp hf
  split at hf
  · split at hf
    · rename_i i j hj
      cases hf
      refine ⟨pa, F, Rr, ad, env, _, _, S, h1, fun F1 ad1 H1 vs le1 S1 a1 => ?_⟩
      obtain ⟨v, w, rfl, t1, t2⟩ := pair2 (S1.readL a1 h2)
      rw [at_int t1, at_int t2]
      exact ⟨i, j, rfl, ⟨by omega, by omega, by omega, by omega⟩, k F1 ad1 H1 _ le1 S1 (iter_rng i _)⟩
    · cases hf
  · cases hf
/-! ### comprehensions -/
def wipeE (env : En) : List Nat → En
  | [] => env
  | v :: vs => (wipeE env vs).set v none
/-- the slots of a comprehension's own names as they were ahead of it -/
def backE (env0 env : En) : List Nat → En
  | [] => env
  | v :: vs => (backE env0 env vs).set v (match env0[v]? with
    | some (some (.dat d)) => some (.dat d)
    | _ => none)
def lcGo (b : Fb) (t : Ft) (f : Fe) (vs : List Nat) : List Z.D → List Z.D → En → Option (List Z.D × En)
  | [], acc, env => some (acc, wipeE env vs)
  | d :: ds, acc, env => (b d (wipeE env vs)).bind fun e1 => (t e1).bind fun p => if p.1 = true then (f p.2).bind fun q => (kp q.2 (fz q.1)).bind fun r => lcGo b t f vs ds (acc ++ [r.1]) r.2 else lcGo b t f vs ds acc p.2
def lcS (fi : Fi) (b : Fb) (t : Ft) (f : Fe) (vs : List Nat) : Fe := fun env => (fi env).bind fun p => if p.1.length ≤ 16777215 then (lcGo b t f vs p.1 [] p.2).bind fun q => some (.own (.lst q.1), backE p.2 q.2 vs) else none
end
section
variable {K : PySem.W.Frag} {cl : Str → Addr} {pa : Nat → Addr} {F F' R H H' : Hp} {σ : L2.St} {ad : Nat → Addr} {env env' : En}
theorem wipeE_length (env : En) : ∀ vs, (wipeE env vs).length = env.length
  | [] => rfl
  | v :: vs => by unfold wipeE; rw [List.length_set, wipeE_length env vs]
theorem wipeE_get {i : Nat} : ∀ {vs : List Nat}, i ∉ vs → (wipeE env vs)[i]? = env[i]?
  | [], _ => rfl
  | v :: vs, h => by
    unfold wipeE
    rw [List.getElem?_set_ne (fun z => h (by simp [z])), wipeE_get (fun z => h (by simp [z]))]
theorem wipeE_none {i : Nat} : ∀ {vs : List Nat}, i ∈ vs → ∀ s, (wipeE env vs)[i]? ≠ some (some s)
  | v :: vs, h, s => by
    unfold wipeE
    by_cases e : v = i
    · subst e
      rw [List.getElem?_set]
      simp only [if_true]
      split
      · intro z; cases z
      · intro z; cases z
    · rw [List.getElem?_set_ne e]
      exact wipeE_none (by simpa [Ne.symm e] using h) s
theorem wipeE_idem (vs : List Nat) (h : ∀ i, i ∈ vs → env[i]? = some none ∨ env[i]? = none) : ∀ ws, (∀ i ∈ ws, i ∈ vs) → wipeE env ws = env
  | [], _ => rfl
  | w :: ws, hw => by
    unfold wipeE
    rw [wipeE_idem vs h ws (fun i hi => hw i (by simp [hi]))]
    rcases h w (hw w (by simp)) with e | e
    · refine List.ext_getElem? fun j => ?_
      by_cases z : w = j
      · subst z; rw [e, List.getElem?_set]; simp [get_lt e]
      · rw [List.getElem?_set_ne z]
    · rw [List.set_eq_of_length_le (List.getElem?_eq_none_iff.mp e)]
theorem wipeSt_get {i : Nat} : ∀ {vs : List Nat}, i ∉ vs → (wipe σ vs)[i]? = σ[i]?
  | [], _ => rfl
  | v :: vs, h => by
    unfold wipe
    rw [List.getElem?_set_ne (fun z => h (by simp [z])), wipeSt_get (fun z => h (by simp [z]))]
/-- fewer slots -/
theorem RS.less {σ' : L2.St} {env' : En} (S : RS K cl pa F R H σ ad env) (hl : env'.length = σ'.length) (h : ∀ (i : Nat) (s : Sl), env'[i]? = some (some s) → env[i]? = some (some s) ∧ σ'[i]? = σ[i]?) : RS K cl pa F R H σ' ad env' where
  fh := S.fh
  rh := S.rh
  len := hl
  dat := fun i d e => by obtain ⟨h1, h2⟩ := h i _ e; rw [h2]; exact S.dat i d h1
  oc := fun i o e => by
    have : ∃ s, env'[i]? = some (some s) := by
      unfold ocOf at e
      split at e
      · rename_i q; exact ⟨_, q⟩
      · rename_i q; exact ⟨_, q⟩
      · cases e
    obtain ⟨s, hs⟩ := this
    obtain ⟨h1, h2⟩ := h i s hs
    rw [h2]
    exact S.oc i o (by unfold ocOf at e ⊢; rw [h1]; rw [hs] at e; exact e)
  ne := fun i j hij hi hj => by
    have aux : ∀ i, (ocOf env' i).isSome = true → (ocOf env i).isSome = true := fun i hi => by
      have : ∃ s, env'[i]? = some (some s) := by
        unfold ocOf at hi
        split at hi
        · rename_i q; exact ⟨_, q⟩
        · rename_i q; exact ⟨_, q⟩
        · cases hi
      obtain ⟨s, hs⟩ := this
      obtain ⟨h1, _⟩ := h i s hs
      unfold ocOf at hi ⊢; rw [h1]; rw [hs] at hi; exact hi
    exact S.ne i j hij (aux i hi) (aux j hj)
  par := fun i o e => S.par i o (h i _ e).1
  dj := S.dj
  slf := fun i c ns fs e => by
    obtain ⟨h1, h2⟩ := h i _ e
    obtain ⟨g1, g2⟩ := S.slf i c ns fs h1
    exact ⟨by rw [h2]; exact g1, g2⟩
theorem RS.wiped (S : RS K cl pa F R H σ ad env) (vs : List Nat) : RS K cl pa F R H (L2.wipe σ vs) ad (wipeE env vs) := by
  refine S.less (by rw [wipeE_length, wipe_length, S.len]) fun i s e => ?_
  by_cases hi : i ∈ vs
  · exact absurd e (wipeE_none hi s)
  · rw [wipeE_get hi] at e; exact ⟨e, wipeSt_get hi⟩
theorem backE_length (env0 env : En) : ∀ vs, (backE env0 env vs).length = env.length
  | [] => rfl
  | v :: vs => by unfold backE; rw [List.length_set, backE_length env0 env vs]
theorem backE_get {env0 : En} {i : Nat} : ∀ {vs : List Nat}, i ∉ vs → (backE env0 env vs)[i]? = env[i]?
  | [], _ => rfl
  | v :: vs, h => by
    unfold backE
    rw [List.getElem?_set_ne (fun z => h (by simp [z])), backE_get (fun z => h (by simp [z]))]
theorem backE_in {env0 : En} {i : Nat} {s : Sl} : ∀ {vs : List Nat}, i ∈ vs → (backE env0 env vs)[i]? = some (some s) → ∃ d, s = .dat d ∧ env0[i]? = some (some (.dat d))
  | v :: vs, h, e => by
    unfold backE at e
    by_cases z : v = i
    · subst z
      rw [List.getElem?_set] at e
      simp only [if_true] at e
      split at e
      · rename_i hv
        injection e with e
        split at e
        · rename_i d q; cases e; exact ⟨d, rfl, q⟩
        · cases e
      · cases e
    · rw [List.getElem?_set_ne z] at e
      exact backE_in (by simpa [Ne.symm z] using h) e
/-- behind a comprehension: its own names as they were -/
theorem RS.back {env0 : En} {ad0 : Nat → Addr} {F0 R0 H0 : Hp} {pa0 : Nat → Addr} {vs : List Nat} (S : RS K cl pa F R H (L2.wipe σ vs) ad env) (hw : ∀ (i : Nat), i ∈ vs → ∀ (s : Sl), env[i]? ≠ some (some s)) (S0 : RS K cl pa0 F0 R0 H0 σ ad0 env0) (le : Le F0 F) : RS K cl pa F R H σ ad (backE env0 env vs) := by
  have hoc : ∀ i o, ocOf (backE env0 env vs) i = some o → ocOf env i = some o ∧ i ∉ vs := fun i o e => by
    by_cases hi : i ∈ vs
    · unfold ocOf at e
      split at e
      · rename_i q; obtain ⟨d, z, _⟩ := backE_in hi q; cases z
      · rename_i q; obtain ⟨d, z, _⟩ := backE_in hi q; cases z
      · cases e
    · refine ⟨?_, hi⟩
      unfold ocOf at e ⊢; rw [backE_get hi] at e; exact e
  refine ⟨S.fh, S.rh, by rw [backE_length, S.len, wipe_length], fun i d e => ?_, fun i o e => ?_, fun i j hij hi hj => ?_, fun i o e => ?_, S.dj, fun i c ns fs e => ?_⟩
  · by_cases hi : i ∈ vs
    · obtain ⟨d', z, q⟩ := backE_in hi e
      cases z
      obtain ⟨v, h1, h2⟩ := S0.dat i d q
      exact ⟨v, h1, h2.mono le⟩
    · rw [backE_get hi] at e
      rw [← wipeSt_get hi]
      exact S.dat i d e
  · obtain ⟨h1, hi⟩ := hoc i o e
    rw [← wipeSt_get hi]
    exact S.oc i o h1
  · have aux : ∀ i, (ocOf (backE env0 env vs) i).isSome = true → (ocOf env i).isSome = true := fun i hi => by
      cases e : ocOf (backE env0 env vs) i with
      | none => rw [e] at hi; cases hi
      | some o => rw [(hoc i o e).1]; rfl
    exact S.ne i j hij (aux i hi) (aux j hj)
  · by_cases hi : i ∈ vs
    · obtain ⟨d, z, _⟩ := backE_in hi e; cases z
    · rw [backE_get hi] at e; exact S.par i o e
  · by_cases hi : i ∈ vs
    · obtain ⟨d, z, _⟩ := backE_in hi e; cases z
    · rw [backE_get hi] at e
      obtain ⟨g1, g2⟩ := S.slf i c ns fs e
      exact ⟨by rw [← wipeSt_get hi]; exact g1, g2⟩
/-- another's object aside -/
theorem RS.aside {p : Addr} {o : HO} (S : RS K cl pa F R H σ ad env) (hF : F p = none) (hR : R p = none) (hH : H p = some o) (hn : ∀ j, (ocOf env j).isSome = true → ad j ≠ p) : RS K cl pa F (upd R p o) H σ ad env := by
  refine ⟨S.fh, S.rh.into hH, S.len, S.dat, fun i u e => ?_, S.ne, S.par, fun b u e => ?_, fun i c ns fs e => (S.slf i c ns fs e).mono (Le.refl _) (Le.put hR)⟩
  · obtain ⟨h1, h2, h3, h4⟩ := S.oc i u e
    exact ⟨h1, h2, by rw [upd_ne (hn i (by rw [e]; rfl))]; exact h3, h4⟩
  · unfold upd at e
    split at e
    · rename_i hb; rw [hb]; exact .inl hF
    · exact S.dj b u e
/-- and changed -/
theorem RS.asideUp {p : Addr} {xs : List V} {o' : HO} (S : RS K cl pa F (upd R p (.lst xs)) H σ ad env) (hR : R p = none) : F p = none ∧ H p = some (.lst xs) ∧ (∀ j, (ocOf env j).isSome = true → ad j ≠ p) ∧ RS K cl pa F R (upd H p o') σ ad env := by
  have hF : F p = none := S.dj.out upd_same (fun _ z => nomatch z)
  have hn : ∀ j, (ocOf env j).isSome = true → ad j ≠ p := fun j hj z => by
    cases e : ocOf env j with
    | none => rw [e] at hj; cases hj
    | some u =>
      obtain ⟨_, _, h3, _⟩ := S.oc j u e
      rw [z, upd_same] at h3; cases h3
  refine ⟨hF, S.rh p _ upd_same, hn, ⟨fun b u e => ?_, fun b u e => ?_, S.len, S.dat, fun i u e => ?_, S.ne, S.par, fun b u e => ?_, fun i c ns fs e => ?_⟩⟩
  · rw [upd_ne (fun z => by subst z; rw [hF] at e; cases e)]; exact S.fh b u e
  · rw [upd_ne (fun z => by subst z; rw [hR] at e; cases e)]; exact S.rh b u (by rw [upd_ne (fun z => by subst z; rw [hR] at e; cases e)]; exact e)
  · obtain ⟨h1, h2, h3, h4⟩ := S.oc i u e
    have hne := hn i (by rw [e]; rfl)
    refine ⟨h1, h2, by rw [upd_ne hne] at h3; exact h3, h4.mono (Le.refl _) (by rw [upd_ne hne])⟩
  · exact S.dj b u (by rw [upd_ne (fun z => by subst z; rw [hR] at e; cases e)]; exact e)
  · obtain ⟨h1, dx, vs, h2, h3⟩ := S.slf i c ns fs e
    refine ⟨h1, dx, vs, ?_, h3⟩
    rw [upd_ne (fun z => by rw [z, upd_same] at h2; cases h2)] at h2
    exact h2
end
end Z

set_option Elab.async false
set_option linter.all false
set_option maxRecDepth 100000
set_option maxHeartbeats 1000000
namespace Z
open PySem PySem.Spec PyProof.Rows L2
section
variable {K : PySem.W.Frag} {cl : Str → Addr} {pa : Nat → Addr} {F F' R H H' : Hp} {σ : L2.St} {ad : Nat → Addr} {env env' : En}
theorem upd_self {H : Hp} {p : Addr} {o : HO} (h : H p = some o) : upd H p o = H := by
  funext b
  unfold upd
  split
  · rename_i e; rw [e, h]
  · rfl
theorem oc_wipe {vs : List Nat} {j : Nat} (h : (ocOf (wipeE env vs) j).isSome = true) : (ocOf env j).isSome = true := by
  by_cases hj : j ∈ vs
  · exfalso
    unfold ocOf at h
    split at h
    · rename_i q; exact wipeE_none hj _ q
    · rename_i q; exact wipeE_none hj _ q
    · cases h
  · unfold ocOf at h ⊢; rw [wipeE_get hj] at h; exact h
theorem oc_back {env0 : En} {vs : List Nat} {j : Nat} (h : (ocOf (backE env0 env vs) j).isSome = true) : (ocOf env j).isSome = true := by
  by_cases hj : j ∈ vs
  · exfalso
    unfold ocOf at h
    split at h
    · rename_i q; obtain ⟨d, z, _⟩ := backE_in hj q; cases z
    · rename_i q; obtain ⟨d, z, _⟩ := backE_in hj q; cases z
    · cases h
  · unfold ocOf at h ⊢; rw [backE_get hj] at h; exact h
theorem drop_get {α : Type} {l : List α} {i : Nat} {x : α} (h : l[i]? = some x) : l.drop i = x :: l.drop (i + 1) := by
  obtain ⟨hi, e⟩ := List.getElem?_eq_some_iff.mp h
  rw [List.drop_eq_getElem_cons hi, e]
end
section
variable {X : Cx} {cl : Str → Addr} {pos : Pos}
/-- the word of a comprehension's loop -/
def LcW (K : PySem.W.Frag) (cl : Str → Addr) (pa : Nat → Addr) (F1 R : Hp) (σ : L2.St) (Dl : Addr) (b : Fb) (t : Ft) (f : Fe) (vs : List Nat) (ds : List Z.D) (res : List Z.D × En) (i m : Nat) (Hc : Hp) : Prop :=
  m + i = ds.length ∧ R Dl = none ∧ ∃ F2 ad2 env2 vacc dacc, Le F1 F2 ∧ RS K cl pa F2 R Hc (wipe σ vs) ad2 (wipeE env2 vs) ∧ F2 Dl = none ∧ Hc Dl = some (.lst vacc) ∧ AtAll K cl F2 vacc dacc ∧
    (∀ j, (ocOf (wipeE env2 vs) j).isSome = true → ad2 j ≠ Dl) ∧ dacc.length ≤ i ∧ lcGo b t f vs (ds.drop i) dacc env2 = some res
theorem lc_red {fi : Fi} {b : Fb} {t : Ft} {f : Fe} {vs : List Nat} : ∀ σ H Q, tR X.K cl (lcS fi b t f vs) σ H Q → tLc (tI X.K cl fi) (tG X.K cl vs b) (tT X.K cl t) (tR X.K cl f) vs σ H Q := by
  intro σ H Q q
  obtain ⟨pa, F, R, ad, env, rv, env', S, hf, k⟩ := q
  unfold lcS at hf
  obtain ⟨⟨ds, e1⟩, h1, hf⟩ := Option.bind_eq_some_iff.mp hf
  dsimp only at hf
  split at hf
  · rename_i hlen
    obtain ⟨res, h2, hf⟩ := Option.bind_eq_some_iff.mp hf
    cases hf
    refine ⟨pa, F, R, ad, env, _, _, S, h1, fun F1 ad1 H1 J le1 S1 it => fun Dl hD => ?_⟩
    refine ⟨LcW X.K cl pa F1 R σ Dl b t f vs ds res, ⟨ds.length, rfl, S1.rh.fresh hD, F1, ad1, e1, [], [], Le.refl _, (S1.newAt hD).wiped vs, S1.fh.fresh hD, upd_same, .nil, fun j hj z => ?_, Nat.le_refl _, h2⟩, fun i m Hc w => ?_⟩
    · have hj' := oc_wipe hj
      cases e : ocOf e1 j with
      | none => rw [e] at hj'; cases hj'
      | some u =>
        obtain ⟨_, _, _, q4⟩ := S1.oc j u e
        obtain ⟨ob, hb⟩ := q4.has
        rw [z, hD] at hb; cases hb
    · obtain ⟨hm, hR, F2, ad2, env2, vacc, dacc, le2, S2, hF2, hDl, al, hne, hlen2, hgo⟩ := w
      by_cases hi' : i < ds.length
      · -- a turn
        right
        obtain ⟨d, hd⟩ : ∃ d, ds[i]? = some d := ⟨_, List.getElem?_eq_getElem hi'⟩
        rw [drop_get hd] at hgo
        unfold lcGo at hgo
        obtain ⟨e3, hb, hgo⟩ := Option.bind_eq_some_iff.mp hgo
        obtain ⟨⟨bb, e4⟩, htt, hgo⟩ := Option.bind_eq_some_iff.mp hgo
        refine ⟨it.go F2 Hc i le2 S2.fh hi', LcW X.K cl pa F1 R σ Dl b t f vs ds res (i + 1) (m - 1), fun H' w' => ⟨m - 1, by omega, w'⟩, fun x H' hy => ?_⟩
        obtain ⟨F3, g, ax⟩ := it.yld F2 Hc i x H' d le2 S2.fh hd hy
        have S2' := S2.aside hF2 hR hDl hne
        have S3 := S2'.grow g
        refine ⟨pa, F3, _, ad2, _, d, e3, S3, ax, hb, fun F4 ad4 σ4 H4 le4 S4 hw => ⟨by rw [hw, wipe_wipe], ?_⟩⟩
        have hw4 : wipe σ4 vs = wipe σ vs := by rw [hw, wipe_wipe]
        refine ⟨pa, F4, _, ad4, e3, bb, e4, S4, htt, fun F5 ad5 H5 le5 S5 => ?_⟩
        have le25 : Le F2 F5 := ((g.le S2.fh).trans le4).trans le5
        cases bb with
        | true =>
          rw [if_pos rfl] at hgo
          refine iteT ?_
          obtain ⟨⟨rr, e5⟩, hff, hgo⟩ := Option.bind_eq_some_iff.mp hgo
          obtain ⟨⟨dd, e6⟩, hk, hgo⟩ := Option.bind_eq_some_iff.mp hgo
          refine ⟨pa, F5, _, ad5, e4, rr, e5, S5, hff, fun F6 ad6 H6 y le6 S6 a6 => ?_⟩
          obtain ⟨F7, l7, S7, b7⟩ := S6.fzz a6
          obtain ⟨F8, l8, S8, b8⟩ := S7.keep b7 hk
          obtain ⟨z1, z2, z3, z4⟩ := S8.asideUp (o' := .lst (vacc ++ [y])) hR
          have le28 : Le F2 F8 := ((le25.trans le6).trans l7).trans l8
          have hlv := al.length
          refine ⟨vacc, z2, by rw [sizeLine_eq]; omega, by omega, hR, F8, ad6, e6, vacc ++ [y], dacc ++ [dd], le2.trans le28, ?_, z1, upd_same, (al.mono le28).append (.cons b8 .nil), fun j hj => z3 j (oc_wipe hj), by simp; omega, hgo⟩
          have := z4.wiped vs
          rw [hw4] at this
          exact this
        | false =>
          rw [if_neg Bool.false_ne_true] at hgo
          refine iteF ?_
          obtain ⟨z1, z2, z3, z4⟩ := S5.asideUp (o' := .lst vacc) hR
          rw [upd_self z2] at z4
          refine ⟨by omega, hR, F5, ad5, e4, vacc, dacc, le2.trans le25, ?_, z1, z2, al.mono le25, fun j hj => z3 j (oc_wipe hj), by omega, hgo⟩
          have := z4.wiped vs
          rw [hw4] at this
          exact this
      · left
        have hie : i = ds.length := by omega
        subst hie
        rw [List.drop_length] at hgo
        cases hgo
        refine ⟨it.stop F2 Hc le2 S2.fh, ?_⟩
        have SB : RS X.K cl pa F2 R Hc σ ad2 (backE e1 (wipeE env2 vs) vs) := S2.back (fun i hi s => wipeE_none hi s) S1 le2
        exact k F2 ad2 Hc (.ref Dl) (le1.trans le2) SB ⟨Dl, rfl, hF2, hR, ⟨vacc, hDl, al⟩, fun j hj => hne j (oc_back hj)⟩
  · cases hf
theorem pr_lc {elt tg iter : Expr} {ifs : List Expr} {scope : Scope} {own : List (Str × Nat)} {fi : Fi} {b : Fb} {t : Ft} {f : Fe} (hc : X.calm = true) (hN : X.N.Nodup) (hi : PI X tg iter (tI X.K cl fi)) (ok : BlkOk X.N X.env.scope scope own)
    (hg : ∀ (s : Shared) (H : Hp) (C : Addr) (cs : List (Str × Addr)) (fp : List Addr), PG (X.blk s H scope (compEnvC scope cs C X.env) fp) tg (tG X.K cl (own.map (·.2)) b))
    (ht : ∀ (s : Shared) (H : Hp) (C : Addr) (cs : List (Str × Addr)) (fp : List Addr), PTs (X.blk s H scope (compEnvC scope cs C X.env) fp) ifs (tT X.K cl t))
    (he : ∀ (s : Shared) (H : Hp) (C : Addr) (cs : List (Str × Addr)) (fp : List Addr), PE (X.blk s H scope (compEnvC scope cs C X.env) fp) elt (tR X.K cl f))
    (hs : ∀ x, foldedSetIterable iter X.env x = pure x := by intro _; rfl) :
    PE X (.ListComp elt [⟨tg, iter, ifs, 0⟩] scope pos) (tR X.K cl (lcS fi b t f (own.map (·.2)))) := by
  exact PE_weak (pe_lc hc hN hi ok hg ht he hs) lc_red
def yesT : Ft := fun env => some (true, env)
theorem pts_nilZ : PTs X [] (tT X.K cl yesT) := ⟨fun pins s σ H Q I q => by
  obtain ⟨pa, F, R, ad, env, b, env', S, hf, k⟩ := q
  cases hf
  exact pts_nil.run pins s σ H Q I (k F ad H (Le.refl _) S)⟩
theorem pts_oneZ {c : Expr} {t : Ft} (h : PT X c (tT X.K cl t)) : PTs X [c] (tT X.K cl t) := pts_one h
end
end Z

set_option Elab.async false
set_option linter.all false
set_option maxRecDepth 100000
set_option maxHeartbeats 1000000
/-! Statements. -/
namespace Z
open PySem PySem.Spec PyProof.Rows L2
inductive Out where
  | nx (e : En)
  | bk (e : En)
  | ct (e : En)
  | rt (r : Rv) (e : En)
abbrev Fs := En → Option Out
section
variable (K : PySem.W.Frag) (cl : Str → Addr)
def OutK (pa : Nat → Addr) (F R : Hp) (E : Ends) : Out → Prop
  | .nx e => ∀ F' ad' σ' H', Le F F' → RS K cl pa F' R H' σ' ad' e → E.nx σ' H'
  | .bk e => ∀ F' ad' σ' H', Le F F' → RS K cl pa F' R H' σ' ad' e → E.bk σ' H'
  | .ct e => ∀ F' ad' σ' H', Le F F' → RS K cl pa F' R H' σ' ad' e → E.ct σ' H'
  | .rt r e => ∀ F' ad' σ' H' v, Le F F' → RS K cl pa F' R H' σ' ad' e → RvAt K cl F' R H' σ' ad' e v r → E.rt v H'
def tS (f : Fs) : TS := fun E σ H => ∃ pa F R ad env out, RS K cl pa F R H σ ad env ∧ f env = some out ∧ OutK K cl pa F R E out
end
section
variable {K : PySem.W.Frag} {cl : Str → Addr} {pa : Nat → Addr} {F F' R H H' : Hp} {E : Ends}
theorem OutK.mono {o : Out} (le : Le F F') (h : OutK K cl pa F R E o) : OutK K cl pa F' R E o := by
  cases o with
  | nx e => exact fun F1 ad σ' H1 l => h F1 ad σ' H1 (le.trans l)
  | bk e => exact fun F1 ad σ' H1 l => h F1 ad σ' H1 (le.trans l)
  | ct e => exact fun F1 ad σ' H1 l => h F1 ad σ' H1 (le.trans l)
  | rt r e => exact fun F1 ad σ' H1 v l => h F1 ad σ' H1 v (le.trans l)
end
section
variable {X : Cx} {cl : Str → Addr} {e : Expr} {pos : Pos} {st : Stmt} {rest : List Stmt}
def doneS : Fs := fun env => some (.nx env)
def seqS (f g : Fs) : Fs := fun env => (f env).bind fun o => match o with
  | .nx e => g e
  | .bk e => some (.bk e)
  | .ct e => some (.ct e)
  | .rt r e => some (.rt r e)
theorem qss_nil : PSs X [] (tS X.K cl doneS) := by
  refine PSs_weak pss_nil fun E σ H q => ?_
  obtain ⟨pa, F, R, ad, env, out, S, hf, k⟩ := q
  cases hf
  exact k F ad σ H (Le.refl _) S
theorem qss_one {f : Fs} (h : PS X st (tS X.K cl f)) : PSs X [st] (tS X.K cl f) := pss_one h
theorem qss_cons {f g : Fs} (h : PS X st (tS X.K cl f)) (h2 : PSs X rest (tS X.K cl g)) : PSs X (st :: rest) (tS X.K cl (seqS f g)) := by
  refine PSs_weak (pss_cons h h2) fun E σ H q => ?_
  obtain ⟨pa, F, R, ad, env, out, S, hf, k⟩ := q
  unfold seqS at hf
  obtain ⟨o, h1, hf⟩ := Option.bind_eq_some_iff.mp hf
  refine ⟨pa, F, R, ad, env, o, S, h1, ?_⟩
  cases o with
  | nx e1 => exact fun F1 ad1 σ1 H1 l S1 => ⟨pa, F1, R, ad1, e1, out, S1, hf, k.mono l⟩
  | bk e1 => cases hf; exact k
  | ct e1 => cases hf; exact k
  | rt r e1 => cases hf; exact k
theorem qs_pass : PS X (.Pass pos) (tS X.K cl doneS) := by
  refine PS_weak ps_pass fun E σ H q => ?_
  obtain ⟨pa, F, R, ad, env, out, S, hf, k⟩ := q
  cases hf
  exact k F ad σ H (Le.refl _) S
def brkS : Fs := fun env => some (.bk env)
def cntS : Fs := fun env => some (.ct env)
theorem qs_break : PS X (.Break pos) (tS X.K cl brkS) := by
  refine PS_weak ps_break fun E σ H q => ?_
  obtain ⟨pa, F, R, ad, env, out, S, hf, k⟩ := q
  cases hf
  exact k F ad σ H (Le.refl _) S
theorem qs_cont : PS X (.Continue pos) (tS X.K cl cntS) := by
  refine PS_weak ps_continue fun E σ H q => ?_
  obtain ⟨pa, F, R, ad, env, out, S, hf, k⟩ := q
  cases hf
  exact k F ad σ H (Le.refl _) S
def noS : Fs := fun _ => none
/-- what is never come to -/
theorem qs_no : PS X st (tS X.K cl noS) := ⟨fun pins s σ H E I q => by
  obtain ⟨pa, F, R, ad, env, out, S, hf, k⟩ := q
  cases hf⟩
def noR : Fe := fun _ => none
theorem pr_no : PE X e (tR X.K cl noR) := ⟨fun pins s σ H Q I q => by
  obtain ⟨pa, F, R, ad, env, rv, env', S, hf, k⟩ := q
  cases hf⟩
def retS (f : Fe) : Fs := fun env => (f env).bind fun p => some (.rt p.1 p.2)
theorem qs_ret {f : Fe} (h : PE X e (tR X.K cl f)) : PS X (.Return (some e) pos) (tS X.K cl (retS f)) := by
  refine PS_weak (ps_ret h) fun E σ H q => ?_
  obtain ⟨pa, F, R, ad, env, out, S, hf, k⟩ := q
  unfold retS at hf
  obtain ⟨⟨r1, e1⟩, h1, hf⟩ := Option.bind_eq_some_iff.mp hf
  cases hf
  exact ⟨pa, F, R, ad, env, r1, e1, S, h1, fun F1 ad1 H1 v l S1 a1 => k F1 ad1 σ H1 v l S1 a1⟩
def retN : Fs := fun env => some (.rt (.dat .non) env)
theorem qs_retN : PS X (.Return none pos) (tS X.K cl retN) := by
  refine PS_weak ps_retN fun E σ H q => ?_
  obtain ⟨pa, F, R, ad, env, out, S, hf, k⟩ := q
  cases hf
  exact k F ad σ H .non (Le.refl _) S .non
def iffS (c : Ft) (f g : Fs) : Fs := fun env => (c env).bind fun p => if p.1 = true then f p.2 else g p.2
theorem qs_if {c : Expr} {a b : List Stmt} {t : Ft} {f g : Fs} (hc : PT X c (tT X.K cl t)) (ha : PSs X a (tS X.K cl f)) (hb : PSs X b (tS X.K cl g)) : PS X (.If c a b pos) (tS X.K cl (iffS t f g)) := by
  refine PS_weak (ps_if hc ha hb) fun E σ H q => ?_
  obtain ⟨pa, F, R, ad, env, out, S, hf, k⟩ := q
  unfold iffS at hf
  obtain ⟨⟨b, e1⟩, h1, hf⟩ := Option.bind_eq_some_iff.mp hf
  refine ⟨pa, F, R, ad, env, b, e1, S, h1, fun F1 ad1 H1 l S1 => ?_⟩
  cases b with
  | true => exact ⟨pa, F1, R, ad1, e1, out, S1, hf, k.mono l⟩
  | false => exact ⟨pa, F1, R, ad1, e1, out, S1, hf, k.mono l⟩
/-- an expression whose value is dropped -/
def dropS (f : Fe) : Fs := fun env => (f env).bind fun p => some (.nx p.2)
theorem qs_expr {f : Fe} (h : PE X e (tR X.K cl f)) (hs : swapsWith e none pos.line X.env = pure false := by rfl) : PS X (.Expr e pos) (tS X.K cl (dropS f)) := by
  refine PS_weak (ps_expr h hs) fun E σ H q => ?_
  obtain ⟨pa, F, R, ad, env, out, S, hf, k⟩ := q
  unfold dropS at hf
  obtain ⟨⟨r1, e1⟩, h1, hf⟩ := Option.bind_eq_some_iff.mp hf
  cases hf
  exact ⟨pa, F, R, ad, env, r1, e1, S, h1, fun F1 ad1 H1 v l S1 a1 => k F1 ad1 σ H1 l S1⟩
/-! ### assignments -/
def setE (i : Nat) (p : Rv × En) : Option En := match p.1 with
  | .own o => if i < p.2.length then some (p.2.set i (some (.own o))) else none
  | .dat d => nmB i d p.2
  | .slot j => (kp p.2 (.slot j)).bind fun q => nmB i q.1 q.2
def asgS (i : Nat) (f : Fe) : Fs := fun env => (f env).bind fun p => (setE i p).bind fun e => some (.nx e)
theorem kpS_len {env e : En} {j : Nat} {d : Z.D} (h : kpS env j = some (d, e)) : e.length = env.length := by
  unfold kpS at h
  split at h
  · cases h; rfl
  · cases h; rw [List.length_set]
  · cases h
theorem setE_ok {pa : Nat → Addr} {F R H : Hp} {σ : L2.St} {ad : Nat → Addr} {env e' : En} {v : V} {r : Rv} {i : Nat} (S : RS X.K cl pa F R H σ ad env) (a : RvAt X.K cl F R H σ ad env v r) (h : setE i (r, env) = some e') :
    ∃ F' ad', Le F F' ∧ RS X.K cl pa F' R H (σ.set i (some v)) ad' e' := by
  unfold setE at h
  cases r with
  | own o =>
    dsimp only at h
    split at h
    · rename_i hl
      cases h
      obtain ⟨p, rfl, h1, h2, h3, h4⟩ := a
      exact ⟨F, _, Le.refl _, S.setOwn hl h1 h2 h3 h4⟩
    · cases h
  | dat d =>
    dsimp only [nmB] at h
    split at h
    · rename_i hl; cases h; exact ⟨F, ad, Le.refl _, S.setDat hl a⟩
    · cases h
  | slot j =>
    dsimp only at h
    obtain ⟨⟨d, e1⟩, h1, h⟩ := Option.bind_eq_some_iff.mp h
    obtain ⟨F1, l1, S1, a1⟩ := S.keep (r := .slot j) a h1
    dsimp only [nmB] at h
    split at h
    · rename_i hl; cases h; exact ⟨F1, ad, l1, S1.setDat hl a1⟩
    · cases h
theorem asg_red {i : Nat} {f : Fe} {te : TE} (w : ∀ σ H Q, tR X.K cl f σ H Q → te σ H Q) : ∀ E σ H, tS X.K cl (asgS i f) E σ H → tAsg te (gName i) E σ H := by
  intro E σ H q
  obtain ⟨pa, F, R, ad, env, out, S, hf, k⟩ := q
  unfold asgS at hf
  obtain ⟨⟨r1, e1⟩, h1, hf⟩ := Option.bind_eq_some_iff.mp hf
  obtain ⟨e2, h2, hf⟩ := Option.bind_eq_some_iff.mp hf
  cases hf
  refine w σ H _ ⟨pa, F, R, ad, env, r1, e1, S, h1, fun F1 ad1 H1 v l S1 a1 => ?_⟩
  obtain ⟨F2, ad2, l2, S2⟩ := setE_ok S1 a1 h2
  exact k F2 ad2 _ H1 (l.trans l2) S2
theorem qs_set (i : Nat) {x : Str} {f : Fe} {pos' : Pos} (hN : X.N.Nodup) (he : PE X e (tR X.K cl f)) (hi : X.N[i]? = some x := by rfl) (hx : Loc X.env.scope x := by first | exact Or.inl rfl | exact Or.inr rfl)
    (hs : swapsWith e (some (.Name x pos')) pos.line X.env = pure false := by rfl) (hf : X.fn x = true ∨ X.env.scope.names.lookup x = some .local := by first | exact .inl rfl | exact .inr rfl) :
    PS X (.Assign [.Name x pos'] e pos) (tS X.K cl (asgS i f)) := PS_weak (ps_set hN hi hx he hs hf) (asg_red fun _ _ _ q => q)
theorem qs_setLc (i : Nat) {y : Str} {py : Pos} {elt tg iter : Expr} {ifs : List Expr} {scope : Scope} {own : List (Str × Nat)} {spos : Pos} {fi : Fi} {b : Fb} {t : Ft} {f : Fe} (hc : X.calm = true) (hN : X.N.Nodup)
    (hi : PI X tg iter (tI X.K cl fi)) (ok : BlkOk X.N X.env.scope scope own)
    (hg : ∀ (s : Shared) (H : Hp) (C : Addr) (cs : List (Str × Addr)) (fp : List Addr), PG (X.blk s H scope (compEnvC scope cs C X.env) fp) tg (tG X.K cl (own.map (·.2)) b))
    (ht : ∀ (s : Shared) (H : Hp) (C : Addr) (cs : List (Str × Addr)) (fp : List Addr), PTs (X.blk s H scope (compEnvC scope cs C X.env) fp) ifs (tT X.K cl t))
    (he : ∀ (s : Shared) (H : Hp) (C : Addr) (cs : List (Str × Addr)) (fp : List Addr), PE (X.blk s H scope (compEnvC scope cs C X.env) fp) elt (tR X.K cl f))
    (hsw : swapsWith (.ListComp elt [⟨tg, iter, ifs, 0⟩] scope pos) (some (.Name y py)) spos.line X.env = pure true)
    (hy : X.N[i]? = some y := by rfl) (hl : X.env.scope.names.lookup y = some .local := by rfl) (hs : ∀ x, foldedSetIterable iter X.env x = pure x := by intro _; rfl) :
    PS X (.Assign [.Name y py] (.ListComp elt [⟨tg, iter, ifs, 0⟩] scope pos) spos) (tS X.K cl (asgS i (lcS fi b t f (own.map (·.2))))) :=
  PS_weak (ps_setLc hc hN hy hl hsw hi ok hg ht he hs) (asg_red lc_red)
/-- a, b = e -/
def asgT (b : Fb) (f : Fe) : Fs := fun env => (f env).bind fun p => (kp p.2 (fz p.1)).bind fun q => (b q.1 q.2).bind fun e => some (.nx e)
theorem qs_asg {tg : Expr} {ws : List Nat} {b : Fb} {f : Fe} (he : PE X e (tR X.K cl f)) (hg : PG X tg (tG X.K cl ws b)) (hs : swapsWithSole [tg] e pos.line X.env = pure false := by rfl) (hw : swappedStores [tg] e X.env = pure none := by rfl)
    (h1 : (assignEach [tg] X.env).map (·.2) = [assign tg X.env] := by rfl) : PS X (.Assign [tg] e pos) (tS X.K cl (asgT b f)) := by
  refine PS_weak (ps_asg he hg hs hw h1) fun E σ H q => ?_
  obtain ⟨pa, F, R, ad, env, out, S, hf, k⟩ := q
  unfold asgT at hf
  obtain ⟨⟨r1, e1⟩, h1, hf⟩ := Option.bind_eq_some_iff.mp hf
  obtain ⟨⟨d, e2⟩, h2, hf⟩ := Option.bind_eq_some_iff.mp hf
  obtain ⟨e3, h3, hf⟩ := Option.bind_eq_some_iff.mp hf
  cases hf
  refine ⟨pa, F, R, ad, env, r1, e1, S, h1, fun F1 ad1 H1 v l S1 a1 => ?_⟩
  obtain ⟨F2, l2, S2, a2⟩ := S1.fzz a1
  obtain ⟨F3, l3, S3, a3⟩ := S2.keep a2 h2
  exact ⟨pa, F3, R, ad1, e2, d, e3, S3, a3, h3, fun F4 ad4 σ4 H4 l4 S4 _ => k F4 ad4 σ4 H4 (((l.trans l2).trans l3).trans l4) S4⟩
/-- a, b = x, y (plain names): stored from the right -/
def parS (i j : Nat) (fs : Fa) : Fs := fun env => (fs env).bind fun p => (kpL p.2 p.1).bind fun q => match q.1 with
  | [d, e] => (nmB i d q.2).bind fun e1 => (nmB j e e1).bind fun e2 => some (.nx e2)
  | _ => none
theorem qs_par (i j : Nat) {x y : Str} {a b : Expr} {fs : Fa} {px py pt : Pos} {kt k2 pt2} (hc : X.calm = true) (hN : X.N.Nodup) (ha : PA X [a, b] (tL X.K cl fs)) (hi : X.N[i]? = some x := by rfl) (hj : X.N[j]? = some y := by rfl) (hij : i ≠ j := by decide)
    (hx : X.env.scope.names.lookup x = some .local := by rfl) (hy : X.env.scope.names.lookup y = some .local := by rfl)
    (hw : swappedStores [.Tuple [.Name x px, .Name y py] kt pt] (.Tuple [a, b] k2 pt2) X.env = pure (some [x, y]) := by rfl)
    (hs : swapsWithSole [.Tuple [.Name x px, .Name y py] kt pt] (.Tuple [a, b] k2 pt2) pos.line X.env = pure false := by rfl) :
    PS X (.Assign [.Tuple [.Name x px, .Name y py] kt pt] (.Tuple [a, b] k2 pt2) pos) (tS X.K cl (parS i j fs)) := by
  refine PS_weak (ps_par hc hN hi hj hij hx hy ha hw hs) fun E σ H q => ?_
  obtain ⟨pa, F, R, ad, env, out, S, hf, k⟩ := q
  unfold parS at hf
  obtain ⟨⟨rs, e1⟩, h1, hf⟩ := Option.bind_eq_some_iff.mp hf
  obtain ⟨⟨ds, e2⟩, h2, hf⟩ := Option.bind_eq_some_iff.mp hf
  dsimp only at hf
  split at hf
  · rename_i d e
    obtain ⟨e3, h3, hf⟩ := Option.bind_eq_some_iff.mp hf
    obtain ⟨e4, h4, hf⟩ := Option.bind_eq_some_iff.mp hf
    cases hf
    refine ⟨pa, F, R, ad, env, rs, e1, S, h1, fun F1 ad1 H1 vs l S1 a1 => ?_⟩
    obtain ⟨F2, l2, S2, a2⟩ := S1.keepL a1 h2
    cases a2 with
    | cons b1 b2 =>
      cases b2 with
      | cons b3 b4 =>
        cases b4
        unfold nmB at h3 h4
        split at h3
        · rename_i hl3; cases h3
          split at h4
          · rename_i hl4; cases h4
            exact ⟨_, _, rfl, k F2 ad1 _ H1 (l.trans l2) ((S2.setDat hl3 b1).setDat hl4 b3)⟩
          · cases h4
        · cases h3
  · cases hf
/-! ### loops -/
def forS (b : Fb) (f : Fs) : List Z.D → En → Option Out
  | [], env => some (.nx env)
  | d :: ds, env => (b d env).bind fun e1 => (f e1).bind fun o => match o with
    | .nx e => forS b f ds e
    | .ct e => forS b f ds e
    | .bk e => some (.nx e)
    | .rt r e => some (.rt r e)
def loopS (fi : Fi) (b : Fb) (f : Fs) : Fs := fun env => (fi env).bind fun p => forS b f p.1 p.2
theorem qs_for {tg iter : Expr} {body : List Stmt} {ws : List Nat} {fi : Fi} {b : Fb} {f : Fs} (hp : PassesOwn (model X.prog X.w) X.A X.env X.xe) (hc : X.calm = true) (hi : PI X tg iter (tI X.K cl fi)) (hg : PG X tg (tG X.K cl ws b)) (hb : PSs X body (tS X.K cl f))
    (hs : ∀ x, foldedSetIterable iter X.env x = pure x := by intro _; rfl) : PS X (.For tg iter body [] pos) (tS X.K cl (loopS fi b f)) := by
  refine PS_weak (ps_for hp hc hi hg hb hs) fun E σ H q => ?_
  obtain ⟨pa, F, R, ad, env, out, S, hf, k⟩ := q
  unfold loopS at hf
  obtain ⟨⟨ds, e1⟩, h1, hf⟩ := Option.bind_eq_some_iff.mp hf
  refine ⟨pa, F, R, ad, env, ds, e1, S, h1, fun F1 ad1 H1 J le1 S1 it => ?_⟩
  refine ⟨fun i m σ H => m + i = ds.length ∧ ∃ F2 ad2 e2, Le F1 F2 ∧ RS X.K cl pa F2 R H σ ad2 e2 ∧ forS b f (ds.drop i) e2 = some out, ⟨ds.length, rfl, F1, ad1, e1, Le.refl _, S1, hf⟩, fun i m σ2 H2 w => ?_⟩
  obtain ⟨hm, F2, ad2, e2, le2, S2, hgo⟩ := w
  by_cases hi' : i < ds.length
  · right
    obtain ⟨d, hd⟩ : ∃ d, ds[i]? = some d := ⟨_, List.getElem?_eq_getElem hi'⟩
    rw [drop_get hd] at hgo
    unfold forS at hgo
    obtain ⟨e3, hb3, hgo⟩ := Option.bind_eq_some_iff.mp hgo
    obtain ⟨o, ho, hgo⟩ := Option.bind_eq_some_iff.mp hgo
    refine ⟨it.go F2 H2 i le2 S2.fh hi', fun σ' H' => (m - 1) + (i + 1) = ds.length ∧ ∃ F2 ad2 e2, Le F1 F2 ∧ RS X.K cl pa F2 R H' σ' ad2 e2 ∧ forS b f (ds.drop (i + 1)) e2 = some out, fun σ' H' w' => ⟨m - 1, by omega, w'⟩, fun x H' hy => ?_⟩
    obtain ⟨F3, g, ax⟩ := it.yld F2 H2 i x H' d le2 S2.fh hd hy
    have l23 := g.le S2.fh
    refine ⟨pa, F3, R, ad2, e2, d, e3, S2.grow g, ax, hb3, fun F4 ad4 σ4 H4 l4 S4 _ => ⟨pa, F4, R, ad4, e3, o, S4, ho, ?_⟩⟩
    have l14 : Le F1 F4 := (le2.trans l23).trans l4
    cases o with
    | nx e => exact fun F5 ad5 σ5 H5 l5 S5 => ⟨by omega, F5, ad5, e, l14.trans l5, S5, hgo⟩
    | ct e => exact fun F5 ad5 σ5 H5 l5 S5 => ⟨by omega, F5, ad5, e, l14.trans l5, S5, hgo⟩
    | bk e => cases hgo; exact fun F5 ad5 σ5 H5 l5 S5 => k F5 ad5 σ5 H5 ((le1.trans l14).trans l5) S5
    | rt r e => cases hgo; exact fun F5 ad5 σ5 H5 v l5 S5 a5 => k F5 ad5 σ5 H5 v ((le1.trans l14).trans l5) S5 a5
  · left
    have hie : i = ds.length := by omega
    subst hie
    rw [List.drop_length] at hgo
    cases hgo
    exact ⟨it.stop F2 H2 le2 S2.fh, k F2 ad2 σ2 H2 (le1.trans le2) S2⟩
/-- a while, of at most n turns -/
def whlS (c : Ft) (f : Fs) : Nat → En → Option Out
  | 0, _ => none
  | n + 1, env => (c env).bind fun p => if p.1 = true then (f p.2).bind fun o => match o with
    | .nx e => whlS c f n e
    | .ct e => whlS c f n e
    | .bk e => some (.nx e)
    | .rt r e => some (.rt r e) else some (.nx p.2)
theorem qs_while (n : Nat) {c : Expr} {body : List Stmt} {t : Ft} {f : Fs} (hp : PassesOwn (model X.prog X.w) X.A X.env X.xe) (hc : PT X c (tT X.K cl t)) (hb : PSs X body (tS X.K cl f)) : PS X (.While c body [] pos) (tS X.K cl (whlS t f n)) := by
  refine PS_weak (ps_while hp hc hb) fun E σ H q => ?_
  obtain ⟨pa, F, R, ad, env, out, S, hf, k⟩ := q
  refine ⟨fun m σ H => ∃ F2 ad2 e2, Le F F2 ∧ RS X.K cl pa F2 R H σ ad2 e2 ∧ whlS t f m e2 = some out, ⟨n, F, ad, env, Le.refl _, S, hf⟩, fun m σ2 H2 w => ?_⟩
  obtain ⟨F2, ad2, e2, le2, S2, hgo⟩ := w
  cases m with
  | zero => cases hgo
  | succ m =>
    unfold whlS at hgo
    obtain ⟨⟨b, e3⟩, h3, hgo⟩ := Option.bind_eq_some_iff.mp hgo
    refine ⟨pa, F2, R, ad2, e2, b, e3, S2, h3, fun F3 ad3 H3 l3 S3 => ?_⟩
    cases b with
    | true =>
      rw [if_pos rfl] at hgo
      refine iteT ?_
      obtain ⟨o, ho, hgo⟩ := Option.bind_eq_some_iff.mp hgo
      refine ⟨fun σ H => ∃ F2 ad2 e2, Le F F2 ∧ RS X.K cl pa F2 R H σ ad2 e2 ∧ whlS t f m e2 = some out, fun σ' H' w' => ⟨m, Nat.lt_succ_self m, w'⟩, pa, F3, R, ad3, e3, o, S3, ho, ?_⟩
      have l13 : Le F F3 := le2.trans l3
      cases o with
      | nx e => exact fun F5 ad5 σ5 H5 l5 S5 => ⟨F5, ad5, e, l13.trans l5, S5, hgo⟩
      | ct e => exact fun F5 ad5 σ5 H5 l5 S5 => ⟨F5, ad5, e, l13.trans l5, S5, hgo⟩
      | bk e => cases hgo; exact fun F5 ad5 σ5 H5 l5 S5 => k F5 ad5 σ5 H5 (l13.trans l5) S5
      | rt r e => cases hgo; exact fun F5 ad5 σ5 H5 v l5 S5 a5 => k F5 ad5 σ5 H5 v (l13.trans l5) S5 a5
    | false =>
      rw [if_neg Bool.false_ne_true] at hgo
      refine iteF ?_
      cases hgo
      exact k F3 ad3 σ2 H3 (le2.trans l3) S3
end
end Z

set_option Elab.async false
set_option linter.all false
set_option maxRecDepth 100000
set_option maxHeartbeats 1000000
/-! A def's own lists changed; defs and their calls. -/
namespace Z
open PySem PySem.Spec PyProof.Rows L2
section
variable {X : Cx} {cl : Str → Addr} {e : Expr} {pos : Pos}
def lstOf (env : En) (i : Nat) : Option (List Z.D) := match ocOf env i with
  | some (.lst ds) => some ds
  | _ => none
theorem lstOf_eq {env : En} {i : Nat} {ds : List Z.D} (h : lstOf env i = some ds) : ocOf env i = some (.lst ds) := by
  unfold lstOf at h
  split at h
  · cases h; assumption
  · cases h
theorem oc_slot {env : En} {i : Nat} {o : OC} (h : ocOf env i = some o) : ∃ s, env[i]? = some (some s) := by
  unfold ocOf at h
  split at h
  · exact ⟨_, by assumption⟩
  · exact ⟨_, by assumption⟩
  · cases h
/-- x.append(e) -/
def appS (i : Nat) (f : Fe) : Fs := fun env => (lstOf env i).bind fun _ => (f env).bind fun p => (kp p.2 (fz p.1)).bind fun q => (lstOf q.2 i).bind fun ds => if ds.length < 16777216 then some (.nx (setOC q.2 i (.lst (ds ++ [q.1])))) else none
theorem qs_app {i : Nat} {st : Stmt} {f : Fe} (h : PS X st (tDrop (tBM X.K "list" rAppend (tVar i) (tCons (tR X.K cl f) tNil)))) : PS X st (tS X.K cl (appS i f)) := by
  refine PS_weak h fun E σ H q => ?_
  obtain ⟨pa, F, R, ad, env, out, S, hf, k⟩ := q
  unfold appS at hf
  obtain ⟨ds0, h0, hf⟩ := Option.bind_eq_some_iff.mp hf
  obtain ⟨⟨r1, e1⟩, h1, hf⟩ := Option.bind_eq_some_iff.mp hf
  obtain ⟨⟨d, e2⟩, h2, hf⟩ := Option.bind_eq_some_iff.mp hf
  obtain ⟨ds, h3, hf⟩ := Option.bind_eq_some_iff.mp hf
  split at hf
  · rename_i hl
    cases hf
    obtain ⟨q1, q2, q3, vs0, q4, q5⟩ := S.oc i _ (lstOf_eq h0)
    refine ⟨.ref (ad i), q1, .inl ⟨rfl, vs0, SqL.of q4⟩, pa, F, R, ad, env, r1, e1, S, h1, fun F1 ad1 H1 v l S1 a1 => ?_⟩
    obtain ⟨F2, l2, S2, a2⟩ := S1.fzz a1
    obtain ⟨F3, l3, S3, a3⟩ := S2.keep a2 h2
    obtain ⟨z1, z2, z3, vs, z4, z5⟩ := S3.oc i _ (lstOf_eq h3)
    have ea : ad i = ad1 i := by rw [q1] at z1; exact V.ref.inj (Option.some.inj (Option.some.inj z1))
    refine ⟨ad1 i, vs, v, by rw [ea], rfl, z4, by rw [z5.length, sizeLine_eq]; exact hl, ?_⟩
    exact k F3 ad1 σ _ ((l.trans l2).trans l3) (S3.write (lstOf_eq h3) ⟨vs ++ [v], upd_same, z5.append (.cons a3 .nil)⟩)
  · cases hf
/-- x.extend(e), e a list -/
def extS (i : Nat) (f : Fe) : Fs := fun env => (lstOf env i).bind fun _ => (f env).bind fun p => (kp p.2 (fz p.1)).bind fun q => (lstOf q.2 i).bind fun ds => match q.1 with
  | .lst es => if ds.length + es.length ≤ 16777216 then some (.nx (setOC q.2 i (.lst (ds ++ es)))) else none
  | _ => none
theorem qs_ext {i : Nat} {st : Stmt} {f : Fe} (h : PS X st (tDrop (tBM X.K "list" rExtend (tVar i) (tCons (tR X.K cl f) tNil)))) : PS X st (tS X.K cl (extS i f)) := by
  refine PS_weak h fun E σ H q => ?_
  obtain ⟨pa, F, R, ad, env, out, S, hf, k⟩ := q
  unfold extS at hf
  obtain ⟨ds0, h0, hf⟩ := Option.bind_eq_some_iff.mp hf
  obtain ⟨⟨r1, e1⟩, h1, hf⟩ := Option.bind_eq_some_iff.mp hf
  obtain ⟨⟨d, e2⟩, h2, hf⟩ := Option.bind_eq_some_iff.mp hf
  obtain ⟨ds, h3, hf⟩ := Option.bind_eq_some_iff.mp hf
  dsimp only at hf
  cases d with
  | lst es =>
    dsimp only at hf
    split at hf
    · rename_i hl
      cases hf
      obtain ⟨q1, q2, q3, vs0, q4, q5⟩ := S.oc i _ (lstOf_eq h0)
      refine ⟨.ref (ad i), q1, .inl ⟨rfl, vs0, SqL.of q4⟩, pa, F, R, ad, env, r1, e1, S, h1, fun F1 ad1 H1 v l S1 a1 => ?_⟩
      obtain ⟨F2, l2, S2, a2⟩ := S1.fzz a1
      obtain ⟨F3, l3, S3, a3⟩ := S2.keep a2 h2
      obtain ⟨z1, z2, z3, vs, z4, z5⟩ := S3.oc i _ (lstOf_eq h3)
      have ea : ad i = ad1 i := by rw [q1] at z1; exact V.ref.inj (Option.some.inj (Option.some.inj z1))
      obtain ⟨p, ws, rfl, e3, al⟩ := at_lstF a3
      refine ⟨ad1 i, p, vs, ws, by rw [ea], rfl, z4, S3.fh _ _ e3, by rw [z5.length, al.length, sizeLine_eq]; exact hl, ?_⟩
      exact k F3 ad1 σ _ ((l.trans l2).trans l3) (S3.write (lstOf_eq h3) ⟨vs ++ ws, upd_same, z5.append al⟩)
    · cases hf
  | _ => cases hf
theorem ixN_of_seq {n : Nat} {i : Int} {j : Nat} (h : ixN n i = some j) : seqIndex? i n = some j := (ixN_seq h).1
/-- x.pop(e), x.pop() as values -/
def popS (i : Nat) (f : Fe) : Fe := fun env => (lstOf env i).bind fun _ => (f env).bind fun p => (rd p.2 (fz p.1)).bind fun dk => (intOf dk).bind fun k => (lstOf p.2 i).bind fun ds => (ixN ds.length k).bind fun j => ds[j]?.bind fun d => if k.natAbs < 2 ^ 62 then some (.dat d, setOC p.2 i (.lst (ds.eraseIdx j))) else none
theorem pr_popAt {i : Nat} {f : Fe} (h : PE X e (tBM X.K "list" rPopAt (tVar i) (tCons (tR X.K cl f) tNil))) : PE X e (tR X.K cl (popS i f)) := by
  refine PE_weak h fun σ H Q q => ?_
  obtain ⟨pa, F, R, ad, env, rv, env', S, hf, k⟩ := q
  unfold popS at hf
  obtain ⟨ds0, h0, hf⟩ := Option.bind_eq_some_iff.mp hf
  obtain ⟨⟨r1, e1⟩, h1, hf⟩ := Option.bind_eq_some_iff.mp hf
  obtain ⟨d1, h2, hf⟩ := Option.bind_eq_some_iff.mp hf
  obtain ⟨n, h3, hf⟩ := Option.bind_eq_some_iff.mp hf
  obtain ⟨ds, h4, hf⟩ := Option.bind_eq_some_iff.mp hf
  obtain ⟨j, h5, hf⟩ := Option.bind_eq_some_iff.mp hf
  obtain ⟨d, h6, hf⟩ := Option.bind_eq_some_iff.mp hf
  split at hf
  · rename_i hk
    cases hf
    obtain ⟨q1, q2, q3, vs0, q4, q5⟩ := S.oc i _ (lstOf_eq h0)
    refine ⟨.ref (ad i), q1, .inl ⟨rfl, vs0, SqL.of q4⟩, pa, F, R, ad, env, r1, e1, S, h1, fun F1 ad1 H1 v l S1 a1 => ?_⟩
    obtain ⟨F2, l2, S2, a2⟩ := S1.fzz a1
    have t := S2.read a2 h2
    unfold intOf at h3
    split at h3
    · cases h3
      rw [at_int t]
      obtain ⟨z1, z2, z3, vs, z4, z5⟩ := S2.oc i _ (lstOf_eq h4)
      have ea : ad i = ad1 i := by rw [q1] at z1; exact V.ref.inj (Option.some.inj (Option.some.inj z1))
      obtain ⟨y, y1, y2⟩ := z5.get h6
      refine ⟨ad1 i, vs, n, j, y, by rw [ea], rfl, z4, by omega, by omega, by rw [z5.length]; exact ixN_of_seq h5, y1, ?_⟩
      exact k F2 ad1 _ y (l.trans l2) (S2.write (lstOf_eq h4) ⟨vs.eraseIdx j, upd_same, z5.eraseIdx j⟩) y2
    · cases h3
  · cases hf
def pop0S (i : Nat) : Fe := fun env => (lstOf env i).bind fun ds => ds[ds.length - 1]?.bind fun d => some (.dat d, setOC env i (.lst ds.dropLast))
theorem AtAll.dropLast {K : PySem.W.Frag} {F : Hp} {vs : List V} {ds : List Z.D} (h : AtAll K cl F vs ds) : AtAll K cl F vs.dropLast ds.dropLast := by
  rw [List.dropLast_eq_take, List.dropLast_eq_take, h.length]; exact h.take _
theorem pr_pop {i : Nat} (h : PE X e (tBM0 X.K "list" rPop (tVar i))) : PE X e (tR X.K cl (pop0S i)) := by
  refine PE_weak h fun σ H Q q => ?_
  obtain ⟨pa, F, R, ad, env, rv, env', S, hf, k⟩ := q
  unfold pop0S at hf
  obtain ⟨ds, h0, hf⟩ := Option.bind_eq_some_iff.mp hf
  obtain ⟨d, h1, hf⟩ := Option.bind_eq_some_iff.mp hf
  cases hf
  obtain ⟨q1, q2, q3, vs, q4, q5⟩ := S.oc i _ (lstOf_eq h0)
  obtain ⟨y, y1, y2⟩ := q5.get h1
  refine ⟨.ref (ad i), q1, .inl ⟨rfl, vs, SqL.of q4⟩, ad i, vs, y, rfl, rfl, q4, by rw [q5.length]; exact y1, ?_⟩
  exact k F ad _ y (Le.refl _) (S.write (lstOf_eq h0) ⟨vs.dropLast, upd_same, q5.dropLast⟩) y2
/-- x[k] = e -/
def putS (i : Nat) (fk f : Fe) : Fs := fun env => (f env).bind fun p => (kp p.2 (fz p.1)).bind fun q => (lstOf q.2 i).bind fun _ => (fk q.2).bind fun r => (rd r.2 (fz r.1)).bind fun dk => (intOf dk).bind fun k => (lstOf r.2 i).bind fun ds => (ixN ds.length k).bind fun j => some (.nx (setOC r.2 i (.lst (ds.set j q.1))))
theorem qs_put {i : Nat} {st : Stmt} {fk f : Fe} (h : PS X st (tAsg (tR X.K cl f) (gSub (tVar i) (tR X.K cl fk) rSetL))) : PS X st (tS X.K cl (putS i fk f)) := by
  refine PS_weak h fun E σ H q => ?_
  obtain ⟨pa, F, R, ad, env, out, S, hf, k⟩ := q
  unfold putS at hf
  obtain ⟨⟨r1, e1⟩, h1, hf⟩ := Option.bind_eq_some_iff.mp hf
  obtain ⟨⟨d, e2⟩, h2, hf⟩ := Option.bind_eq_some_iff.mp hf
  obtain ⟨ds0, h0, hf⟩ := Option.bind_eq_some_iff.mp hf
  obtain ⟨⟨r3, e3⟩, h3, hf⟩ := Option.bind_eq_some_iff.mp hf
  obtain ⟨d4, h4, hf⟩ := Option.bind_eq_some_iff.mp hf
  obtain ⟨n, h5, hf⟩ := Option.bind_eq_some_iff.mp hf
  obtain ⟨ds, h6, hf⟩ := Option.bind_eq_some_iff.mp hf
  obtain ⟨j, h7, hf⟩ := Option.bind_eq_some_iff.mp hf
  cases hf
  refine ⟨pa, F, R, ad, env, r1, e1, S, h1, fun F1 ad1 H1 v l S1 a1 => ?_⟩
  obtain ⟨F2, l2, S2, a2⟩ := S1.fzz a1
  obtain ⟨F3, l3, S3, a3⟩ := S2.keep a2 h2
  obtain ⟨q1, q2, q3, vs0, q4, q5⟩ := S3.oc i _ (lstOf_eq h0)
  refine ⟨.ref (ad1 i), q1, pa, F3, R, ad1, e2, r3, e3, S3, h3, fun F4 ad4 H4 u l4 S4 a4 => ?_⟩
  obtain ⟨F5, l5, S5, a5⟩ := S4.fzz a4
  have t := S5.read a5 h4
  unfold intOf at h5
  split at h5
  · cases h5
    rw [at_int t]
    obtain ⟨z1, z2, z3, vs, z4, z5⟩ := S5.oc i _ (lstOf_eq h6)
    have ea : ad1 i = ad4 i := by rw [q1] at z1; exact V.ref.inj (Option.some.inj (Option.some.inj z1))
    refine ⟨ad4 i, vs, n, j, by rw [ea], rfl, z4, by rw [z5.length]; exact h7, ?_⟩
    exact k F5 ad4 σ _ ((((l.trans l2).trans l3).trans l4).trans l5) (S5.write (lstOf_eq h6) ⟨vs.set j v, upd_same, z5.set (a3.mono (l4.trans l5)) j⟩)
  · cases h5
end
end Z

set_option Elab.async false
set_option linter.all false
set_option maxRecDepth 100000
set_option maxHeartbeats 1000000
/-! Defs, their promises, their calls. -/
namespace Z
open PySem PySem.Spec PyProof.Rows L2
/-- what a def hands back -/
inductive Rt where
  | dat (d : Z.D)
  | own (o : OC)
def Rt.rv : Rt → Rv
  | .dat d => .dat d
  | .own o => .own o
section
variable (K : PySem.W.Frag) (cl : Str → Addr)
def RtAt (F R H : Hp) (v : V) : Rt → Prop
  | .dat d => At K cl F v d
  | .own o => ∃ a, v = .ref a ∧ F a = none ∧ R a = none ∧ OwnAt K cl F H a o
/-- a def that changes nothing that stands: m of the arguments' data -/
def spP (n : Nat) (m : List Z.D → Option Rt) : Sp := fun vs H Q _ => vs.length = n ∧ ∃ F R ds r, m ds = some r ∧ Le F H ∧ Le R H ∧ Dj R F ∧ AtAll K cl F vs ds ∧
  ∀ F' H' v, Le F F' → Le F' H' → Le R H' → Dj R F' → RtAt K cl F' R H' v r → Q v H'
/-- a def that changes its first argument's container -/
def spM (n : Nat) (m : OC → List Z.D → Option (Rt × OC)) : Sp := fun vs H Q _ => vs.length = n ∧ ∃ F R p ws o ds r, vs = .ref p :: ws ∧ m o ds = some r ∧ Le F H ∧ Le R H ∧ Dj R F ∧ F p = none ∧ R p = none ∧ OwnAt K cl F H p o ∧ AtAll K cl F ws ds ∧
  ∀ F' H' v, Le F F' → Le F' H' → Le R H' → Dj R F' → F' p = none → OwnAt K cl F' H' p r.2 → RtAt K cl F' R H' v r.1 → (∀ a, v = .ref a → r.1 = .own (match r.1 with | .own o => o | .dat _ => .lst []) → a ≠ p) → Q v H'
end
/-- what a def's own containers add to what others hold -/
noncomputable def withOwn (R H : Hp) (ad : Nat → Addr) (env : En) : Hp := fun a => open Classical in if ∃ j, (ocOf env j).isSome = true ∧ ad j = a then H a else R a
section
variable {K : PySem.W.Frag} {cl : Str → Addr} {pa : Nat → Addr} {F F' R H H' : Hp} {σ : L2.St} {ad : Nat → Addr} {env env' : En}
theorem withOwn_own {j : Nat} (h : (ocOf env j).isSome = true) : withOwn R H ad env (ad j) = H (ad j) := by unfold withOwn; rw [if_pos ⟨j, h, rfl⟩]
theorem withOwn_ne {a : Addr} (h : ∀ j, (ocOf env j).isSome = true → ad j ≠ a) : withOwn R H ad env a = R a := by
  unfold withOwn
  rw [if_neg]
  rintro ⟨j, h1, h2⟩
  exact h j h1 h2
theorem RS.rown (S : RS K cl pa F R H σ ad env) : Le (withOwn R H ad env) H := fun a o e => by
  unfold withOwn at e
  split at e
  · exact e
  · exact S.rh a o e
theorem RS.own_ne (S : RS K cl pa F R H σ ad env) {a : Addr} {o : HO} (h : R a = some o) : ∀ j, (ocOf env j).isSome = true → ad j ≠ a := fun j hj z => by
  cases e : ocOf env j with
  | none => rw [e] at hj; cases hj
  | some u => obtain ⟨_, _, h3, _⟩ := S.oc j u e; rw [z, h] at h3; cases h3
theorem RS.down (S : RS K cl pa F R H σ ad env) : Dj (withOwn R H ad env) F := fun a o e => by
  unfold withOwn at e
  split at e
  · rename_i h
    obtain ⟨j, hj, rfl⟩ := h
    cases e2 : ocOf env j with
    | none => rw [e2] at hj; cases hj
    | some u => exact .inl (S.oc j u e2).2.1
  · exact S.dj a o e
/-- behind a call that kept what stood aside -/
theorem RS.after (S : RS K cl pa F R H σ ad env) (l : Le F F') (h1 : Le F' H') (h2 : Le (withOwn R H ad env) H') (h3 : Dj (withOwn R H ad env) F') : RS K cl pa F' R H' σ ad env := by
  have hown : ∀ j u, ocOf env j = some u → ∃ ob, H (ad j) = some ob ∧ H' (ad j) = some ob ∧ F' (ad j) = none := fun j u e => by
    obtain ⟨_, _, _, q4⟩ := S.oc j u e
    obtain ⟨ob, hb⟩ := q4.has
    have hw : withOwn R H ad env (ad j) = some ob := by rw [withOwn_own (by rw [e]; rfl)]; exact hb
    exact ⟨ob, hb, h2 _ _ hw, h3.out hw fun xs z => by subst z; cases u with
      | lst ds => obtain ⟨vs, y, _⟩ := q4; rw [hb] at y; cases y
      | dct ks ds => obtain ⟨vs, y, _⟩ := q4; rw [hb] at y; cases y⟩
  have hR : ∀ a o, R a = some o → withOwn R H ad env a = some o := fun a o e => by rw [withOwn_ne (S.own_ne e)]; exact e
  refine ⟨h1, fun a o e => h2 a o (hR a o e), S.len, fun i d e => ?_, fun i o e => ?_, S.ne, S.par, fun a o e => h3 a o (hR a o e), fun i c ns fs e => (S.slf i c ns fs e).mono l (Le.refl _)⟩
  · obtain ⟨v, q1, q2⟩ := S.dat i d e; exact ⟨v, q1, q2.mono l⟩
  · obtain ⟨q1, q2, q3, q4⟩ := S.oc i o e
    obtain ⟨ob, b1, b2, b3⟩ := hown i o e
    exact ⟨q1, b3, q3, q4.mono l (by rw [b1, b2])⟩
theorem RtAt.rv (S : RS K cl pa F R H σ ad env) {v : V} {r : Rt} (h : RtAt K cl F' (withOwn R H ad env) H' v r) : RvAt K cl F' R H' σ ad env v r.rv := by
  cases r with
  | dat d => exact h
  | own o =>
    obtain ⟨a, rfl, h1, h2, h3⟩ := h
    have hn : ∀ j, (ocOf env j).isSome = true → ad j ≠ a := fun j hj z => by
      cases e : ocOf env j with
      | none => rw [e] at hj; cases hj
      | some u =>
        obtain ⟨_, _, _, q4⟩ := S.oc j u e
        obtain ⟨ob, hb⟩ := q4.has
        rw [← z, withOwn_own hj, hb] at h2; cases h2
    exact ⟨a, rfl, h1, by rw [withOwn_ne hn] at h2; exact h2, h3, hn⟩
end
section
variable {X : Cx} {cl : Str → Addr} {e : Expr}
def callP (m : List Z.D → Option Rt) (fs : Fa) : Fe := fun env => (fs env).bind fun p => (kpL p.2 p.1).bind fun q => (m q.1).bind fun r => some (r.rv, q.2)
theorem pair_len {R : V → Rv → Prop} {vs : List V} {rs : List Rv} (h : Paired R vs rs) : vs.length = rs.length := Paired.length h
theorem pr_call {n : Nat} {m : List Z.D → Option Rt} {fs : Fa} {E : XK} (h : PE X e (tCall (spP X.K cl n m) [] E (tL X.K cl fs))) (hlen : ∀ (env : En) (rvs : List Rv) (env' : En), fs env = some (rvs, env') → rvs.length = n) : PE X e (tR X.K cl (callP m fs)) := by
  refine PE_weak h fun σ H Q q => ?_
  obtain ⟨pa, F, R, ad, env, rv, env', S, hf, k⟩ := q
  unfold callP at hf
  obtain ⟨⟨rs, e1⟩, h1, hf⟩ := Option.bind_eq_some_iff.mp hf
  obtain ⟨⟨ds, e2⟩, h2, hf⟩ := Option.bind_eq_some_iff.mp hf
  obtain ⟨r, h3, hf⟩ := Option.bind_eq_some_iff.mp hf
  cases hf
  refine ⟨pa, F, R, ad, env, rs, e1, S, h1, fun F1 ad1 H1 vs l S1 a1 => ?_⟩
  obtain ⟨F2, l2, S2, a2⟩ := S1.keepL a1 h2
  rw [List.append_nil]
  refine ⟨by rw [pair_len a1, hlen _ _ _ h1], F2, withOwn R H1 ad1 e2, ds, r, h3, S2.fh, S2.rown, S2.down, a2, fun F3 H3 v l3 b1 b2 b3 b4 => ?_⟩
  exact k F3 ad1 H3 v ((l.trans l2).trans l3) (S2.after l3 b1 b2 b3) (RtAt.rv S2 b4)
theorem setOC_ne {env : En} {i j : Nat} {o : OC} (h : i ≠ j) : (setOC env i o)[j]? = env[j]? := by
  unfold setOC
  split <;> rw [List.getElem?_set_ne h]
/-- the call of a def that changes the container in slot i, its first argument -/
def callM (m : OC → List Z.D → Option (Rt × OC)) (i : Nat) (fs : Fa) : Fe := fun env => (fs env).bind fun p => match p.1 with
  | .slot j :: rest => if j = i then (kpL p.2 rest).bind fun q => (ocOf q.2 i).bind fun o => (m o q.1).bind fun r => some (r.1.rv, setOC q.2 i r.2) else none
  | _ => none
theorem pr_callM {n : Nat} {m : OC → List Z.D → Option (Rt × OC)} {fs : Fa} {E : XK} (i : Nat) (h : PE X e (tCall (spM X.K cl n m) [] E (tL X.K cl fs))) (hlen : ∀ (env : En) (rvs : List Rv) (env' : En), fs env = some (rvs, env') → rvs.length = n) : PE X e (tR X.K cl (callM m i fs)) := by
  refine PE_weak h fun σ H Q q => ?_
  obtain ⟨pa, F, R, ad, env, rv, env', S, hf, k⟩ := q
  unfold callM at hf
  obtain ⟨⟨rs, e1⟩, h1, hf⟩ := Option.bind_eq_some_iff.mp hf
  dsimp only at hf
  split at hf
  · rename_i j rest
    split at hf
    · rename_i hj
      subst hj
      obtain ⟨⟨ds, e2⟩, h2, hf⟩ := Option.bind_eq_some_iff.mp hf
      obtain ⟨o, h3, hf⟩ := Option.bind_eq_some_iff.mp hf
      obtain ⟨r, h4, hf⟩ := Option.bind_eq_some_iff.mp hf
      cases hf
      refine ⟨pa, F, R, ad, env, _, e1, S, h1, fun F1 ad1 H1 vs l S1 a1 => ?_⟩
      have hl1 := pair_len a1
      cases a1 with
      | cons a0 a1 =>
        rename_i v0 ws
        obtain ⟨F2, l2, S2, a2⟩ := S1.keepL a1 h2
        obtain ⟨q1, q2, q3, q4⟩ := S2.oc j o h3
        have e0 : v0 = .ref (ad1 j) := by
          have : σ[j]? = some (some v0) := a0
          rw [this] at q1; cases q1; rfl
        subst e0
        show spM X.K cl n m ((V.ref (ad1 j) :: ws) ++ []) H1 Q E
        rw [List.append_nil]
        -- aside: all own containers but that one
        let env2 := e2.set j none
        have hoc2 : ∀ i, i ≠ j → ocOf env2 i = ocOf e2 i := fun i hi => oc_set_ne (Ne.symm hi)
        have hocj : ocOf env2 j = none := by
          obtain ⟨s, hs⟩ := oc_slot h3
          unfold ocOf
          show (match (e2.set j none)[j]? with | some (some (.own o)) => some o | some (some (.par o)) => some o | _ => none) = none
          rw [set_get_self hs]
        have S2' : RS X.K cl pa F2 R H1 (σ.set j none) ad1 env2 := S2.less (by show (e2.set j none).length = _; rw [List.length_set, List.length_set]; exact S2.len) fun i s hs => by
          by_cases z : j = i
          · subst z
            obtain ⟨s', hs'⟩ := oc_slot h3
            change (e2.set j none)[j]? = _ at hs
            rw [set_get_self hs'] at hs; cases hs
          · change (e2.set j none)[i]? = _ at hs
            rw [List.getElem?_set_ne z] at hs
            exact ⟨hs, List.getElem?_set_ne z⟩
        have hnp : withOwn R H1 ad1 env2 (ad1 j) = none := by
          rw [withOwn_ne]
          · exact q3
          · intro i hi z
            by_cases y : i = j
            · subst y; rw [hocj] at hi; cases hi
            · exact S2.ne i j y (by rw [← hoc2 i y]; exact hi) (by rw [h3]; rfl) z
        refine ⟨by rw [hl1, hlen _ _ _ h1], F2, withOwn R H1 ad1 env2, ad1 j, ws, o, ds, r, rfl, h4, S2.fh, S2'.rown, S2'.down, q2, hnp, q4, a2, fun F3 H3 v l3 b1 b2 b3 b4 b5 b6 b7 => ?_⟩
        have S3 : RS X.K cl pa F3 R H3 (σ.set j none) ad1 env2 := S2'.after l3 b1 b2 b3
        have S4 : RS X.K cl pa F3 R H3 σ ad1 (setOC e2 j r.2) := by
          have hs : (setOC e2 j r.2)[j]? = some (some (.own r.2)) ∨ (∃ u, e2[j]? = some (some (.par u)) ∧ (setOC e2 j r.2)[j]? = some (some (.par r.2))) := by
            obtain ⟨s', hs'⟩ := oc_slot h3
            unfold setOC
            split
            · rename_i u hu; exact .inr ⟨u, hu, set_get_self hs'⟩
            · exact .inl (set_get_self hs')
          have hocj2 : ocOf (setOC e2 j r.2) j = some r.2 := by
            rcases hs with e | ⟨_, _, e⟩
            · exact oc_own e
            · exact oc_par e
          have hne : ∀ i, j ≠ i → (setOC e2 j r.2)[i]? = env2[i]? := fun i z => by
            show _ = (e2.set j none)[i]?
            rw [List.getElem?_set_ne z]
            unfold setOC; split <;> rw [List.getElem?_set_ne z]
          have hocn : ∀ i, j ≠ i → ocOf (setOC e2 j r.2) i = ocOf env2 i := fun i z => by unfold ocOf; rw [hne i z]
          refine ⟨S3.fh, S3.rh, by unfold setOC; split <;> rw [List.length_set] <;> exact S2.len, fun i d hd => ?_, fun i u hu => ?_, fun i l hil hi hl => ?_, fun i u hu => ?_, S3.dj, fun i c ns fs hu => ?_⟩
          · by_cases z : j = i
            · subst z
              rcases hs with e | ⟨_, _, e⟩ <;> (rw [e] at hd; cases hd)
            · rw [hne i z] at hd
              obtain ⟨w, w1, w2⟩ := S3.dat i d hd
              rw [List.getElem?_set_ne z] at w1
              exact ⟨w, w1, w2⟩
          · by_cases z : j = i
            · subst z
              rw [hocj2] at hu; cases hu
              exact ⟨q1, b4, q3, b5⟩
            · rw [hocn i z] at hu
              obtain ⟨w1, w2, w3, w4⟩ := S3.oc i u hu
              rw [List.getElem?_set_ne z] at w1
              exact ⟨w1, w2, w3, w4⟩
          · have aux : ∀ i, (ocOf (setOC e2 j r.2) i).isSome = true → (ocOf e2 i).isSome = true := fun i hi => by
              by_cases z : j = i
              · subst z; rw [h3]; rfl
              · rw [hocn i z, hoc2 i (Ne.symm z)] at hi; exact hi
            exact S2.ne i l hil (aux i hi) (aux l hl)
          · by_cases z : j = i
            · subst z
              rcases hs with e | ⟨w, y, e⟩
              · rw [e] at hu; cases hu
              · exact S2.par j w y
            · rw [hne i z] at hu; exact S3.par i u hu
          · by_cases z : j = i
            · subst z
              rcases hs with e | ⟨_, _, e⟩ <;> (rw [e] at hu; cases hu)
            · rw [hne i z] at hu
              obtain ⟨g1, g2⟩ := S3.slf i c ns fs hu
              rw [List.getElem?_set_ne z] at g1
              exact ⟨g1, g2⟩
        refine k F3 ad1 H3 v ((l.trans l2).trans l3) S4 ?_
        have rr := RtAt.rv S2' b6
        cases hr : r.1 with
        | dat d => rw [hr] at rr; exact rr
        | own o2 =>
          rw [hr] at rr b7
          obtain ⟨a, rfl, c1, c2, c3, c4⟩ := rr
          refine ⟨a, rfl, c1, c2, c3, fun i hi => ?_⟩
          by_cases z : i = j
          · subst z; exact Ne.symm (b7 a rfl rfl)
          · refine c4 i ?_
            have : ocOf (setOC e2 j r.2) i = ocOf e2 i := by
              unfold ocOf
              rw [setOC_ne (Ne.symm z)]
            change (ocOf (setOC e2 j r.2) i).isSome = true at hi
            rw [this] at hi
            rw [hoc2 i z]; exact hi
    · cases hf
  · cases hf
/-! ### bodies -/
def startE (N : List Str) (ds : List Z.D) : En := ds.map (fun d => some (Sl.dat d)) ++ List.replicate (N.length - ds.length) none
def startM (N : List Str) (o : OC) (ds : List Z.D) : En := some (.par o) :: (ds.map (fun d => some (Sl.dat d)) ++ List.replicate (N.length - (ds.length + 1)) none)
def fin : Out → Option Rt
  | .nx _ => some (.dat .non)
  | .rt (.dat d) _ => some (.dat d)
  | .rt (.own o) _ => some (.own o)
  | .rt (.slot i) e => match e[i]? with
    | some (some (.dat d)) => some (.dat d)
    | some (some (.own o)) => some (.own o)
    | _ => none
  | _ => none
def outE : Out → En
  | .nx e => e
  | .bk e => e
  | .ct e => e
  | .rt _ e => e
def parOf (e : En) : Option OC := match e[0]? with
  | some (some (Sl.par c)) => some c
  | _ => none
def fin2 (o : Out) : Option (Rt × OC) := (fin o).bind fun r => (parOf (outE o)).bind fun c => some (r, c)
def runP (N : List Str) (f : Fs) : List Z.D → Option Rt := fun ds => (f (startE N ds)).bind fin
def runM (N : List Str) (f : Fs) : OC → List Z.D → Option (Rt × OC) := fun o ds => (f (startM N o ds)).bind fin2
end
section
variable {P : Program} {w : World} {K : PySem.W.Frag} {cl : Str → Addr} {mg : Str → Option Value} {base : Heap}
theorem startE_get {N : List Str} {ds : List Z.D} {vs : List V} {F : Hp} (a : AtAll K cl F vs ds) (hn : ds.length ≤ N.length) : ∀ (i : Nat) (s : Sl), (startE N ds)[i]? = some (some s) → ∃ d v, s = Sl.dat d ∧ (L2.start N vs)[i]? = some (some v) ∧ At K cl F v d := by
  intro i s h
  unfold startE at h
  by_cases hi : i < ds.length
  · rw [List.getElem?_append_left (by simpa using hi), List.getElem?_map] at h
    obtain ⟨d, hd⟩ : ∃ d, ds[i]? = some d := ⟨_, List.getElem?_eq_getElem hi⟩
    rw [hd] at h
    cases h
    obtain ⟨v, h1, h2⟩ := a.get hd
    refine ⟨d, v, rfl, ?_, h2⟩
    unfold L2.start
    rw [List.getElem?_append_left (by rw [List.length_map, a.length]; exact hi), List.getElem?_map, h1]
    rfl
  · rw [List.getElem?_append_right (by simpa using hi)] at h
    have := List.mem_of_getElem? h
    rw [List.mem_replicate] at this
    exact nomatch this.2
theorem start_len {N : List Str} {ds : List Z.D} {vs : List V} {F : Hp} (a : AtAll K cl F vs ds) : (startE N ds).length = (L2.start N vs).length := by
  unfold startE L2.start
  simp [a.length]
theorem RS.begin {N : List Str} {ds : List Z.D} {vs : List V} {F R H : Hp} (a : AtAll K cl F vs ds) (hn : ds.length ≤ N.length) (h1 : Le F H) (h2 : Le R H) (h3 : Dj R F) : RS K cl (fun _ => 0) F R H (L2.start N vs) (fun _ => 0) (startE N ds) := by
  have hoc : ∀ i, ocOf (startE N ds) i = none := fun i => by
    unfold ocOf
    split
    · rename_i q; obtain ⟨d, v, z, _⟩ := startE_get a hn i _ q; cases z
    · rename_i q; obtain ⟨d, v, z, _⟩ := startE_get a hn i _ q; cases z
    · rfl
  refine ⟨h1, h2, start_len a, fun i d e => ?_, fun i o e => ?_, fun i j _ hi _ => ?_, fun i o e => ?_, h3, fun i c ns fs e => ?_⟩
  · obtain ⟨d', v, z, q1, q2⟩ := startE_get a hn i _ e; cases z; exact ⟨v, q1, q2⟩
  · rw [hoc] at e; cases e
  · rw [hoc] at hi; cases hi
  · obtain ⟨d', v, z, _⟩ := startE_get a hn i _ e; cases z
  · obtain ⟨d', v, z, _⟩ := startE_get a hn i _ e; cases z
theorem fin_at {pa : Nat → Addr} {F R H : Hp} {σ : L2.St} {ad : Nat → Addr} {env : En} {v : V} {r : Rv} {t : Rt} (S : RS K cl pa F R H σ ad env) (a : RvAt K cl F R H σ ad env v r) (h : fin (.rt r env) = some t) : RtAt K cl F R H v t ∧ ∀ (i : Nat) (o : OC), env[i]? = some (some (Sl.par o)) → ∀ b, v = .ref b → (∃ u, t = .own u) → b ≠ ad i := by
  cases r with
  | dat d => cases h; exact ⟨a, fun _ _ _ _ _ ⟨_, z⟩ => by cases z⟩
  | own o =>
    cases h
    obtain ⟨p, rfl, h1, h2, h3, h4⟩ := a
    exact ⟨⟨p, rfl, h1, h2, h3⟩, fun i u hi b hb _ => by cases hb; exact Ne.symm (h4 i (by rw [oc_par hi]; rfl))⟩
  | slot i =>
    change (match env[i]? with | some (some (.dat d)) => some (Rt.dat d) | some (some (.own o)) => some (.own o) | _ => none) = some t at h
    split at h
    · rename_i d q
      cases h
      obtain ⟨v', q1, q2⟩ := S.dat i d q
      have : v' = v := by rw [show σ[i]? = some (some v) from a] at q1; cases q1; rfl
      subst this
      exact ⟨q2, fun _ _ _ _ _ ⟨_, z⟩ => by cases z⟩
    · rename_i o q
      cases h
      obtain ⟨q1, q2, q3, q4⟩ := S.oc i o (oc_own q)
      have : V.ref (ad i) = v := by rw [show σ[i]? = some (some v) from a] at q1; cases q1; rfl
      subst this
      refine ⟨⟨_, rfl, q2, q3, q4⟩, fun j u hj b hb _ => ?_⟩
      cases hb
      refine S.ne i j (fun z => ?_) (by rw [oc_own q]; rfl) (by rw [oc_par hj]; rfl)
      subst z; rw [q] at hj; cases hj
    · cases h
theorem okP {x qual : Str} {st : Stmt} {f : Addr} {fd : FuncData} {N ps : List Str} {k : Nat} (body : Fs) (Fn : Fun K x qual st f fd) (S : FnScope N ps (defScope st)) (hN : ps.length ≤ N.length)
    (hd : ∀ (cdv : Value) (A : Around) (outer : List Env) (s : Shared) (H : Hp) (E : XK), Room k (A.deeper (envOfC qual (defScope st) s.heap.objs.size f cdv)) → PSs (cxOf CX0 P w K mg base N qual (defScope st) f cdv A outer s H E).nox (defBody st) (tS K cl body)) :
    FnOk P w K mg base CX0 (k + 1) f fd ps (spP K cl ps.length (runP N body)) := by
  refine Fn.ok S (fun vs H Q E h => h.1) (fun cdv A outer s H vs Q E hr h => ⟨_, hd cdv A outer s H E hr, ?_⟩)
  obtain ⟨hl, F, R, ds, r, hm, h1, h2, h3, a, q⟩ := h
  unfold runP at hm
  obtain ⟨o, ho, hm⟩ := Option.bind_eq_some_iff.mp hm
  have hdl : ds.length ≤ N.length := by rw [← a.length, hl]; exact hN
  refine ⟨_, F, R, _, _, o, RS.begin a hdl h1 h2 h3, ho, ?_⟩
  cases o with
  | nx e => cases hm; exact fun F' ad' σ' H' l S' => q F' H' .non l S'.fh S'.rh S'.dj .non
  | bk e => cases hm
  | ct e => cases hm
  | rt rv e => exact fun F' ad' σ' H' v l S' a' => q F' H' v l S'.fh S'.rh S'.dj (fin_at S' a' hm).1
theorem okM {x qual : Str} {st : Stmt} {f : Addr} {fd : FuncData} {N ps : List Str} {k : Nat} (body : Fs) (Fn : Fun K x qual st f fd) (S : FnScope N ps (defScope st)) (hN : ps.length ≤ N.length)
    (hd : ∀ (cdv : Value) (A : Around) (outer : List Env) (s : Shared) (H : Hp) (E : XK), Room k (A.deeper (envOfC qual (defScope st) s.heap.objs.size f cdv)) → PSs (cxOf CX0 P w K mg base N qual (defScope st) f cdv A outer s H E).nox (defBody st) (tS K cl body)) :
    FnOk P w K mg base CX0 (k + 1) f fd ps (spM K cl ps.length (runM N body)) := by
  refine Fn.ok S (fun vs H Q E h => h.1) (fun cdv A outer s H vs Q E hr h => ⟨_, hd cdv A outer s H E hr, ?_⟩)
  obtain ⟨hl, F, R, p, ws, c, ds, r, rfl, hm, h1, h2, h3, hF, hR, ow, a, q⟩ := h
  unfold runM at hm
  obtain ⟨o, ho, hm⟩ := Option.bind_eq_some_iff.mp hm
  have hdl : ds.length + 1 ≤ N.length := by rw [← a.length]; simp only [List.length_cons] at hl; omega
  have hal := a.length
  obtain ⟨N', n0, hNe⟩ : ∃ N' n0, N = n0 :: N' := by
    cases N with
    | nil => simp at hdl
    | cons n0 N' => exact ⟨N', n0, rfl⟩
  have e1 : startM N c ds = some (.par c) :: startE N' ds := by unfold startM startE; rw [hNe]; simp
  have e2 : L2.start N (.ref p :: ws) = some (.ref p) :: L2.start N' ws := by unfold L2.start; rw [hNe]; simp
  have S0 := RS.begin (K := K) (cl := cl) (N := N') a (by rw [hNe] at hdl; simpa using hdl) h1 h2 h3
  have hocs : ∀ i, ocOf (startE N' ds) i = none := fun i => by
    cases e : ocOf (startE N' ds) i with
    | none => rfl
    | some u =>
      unfold ocOf at e
      split at e
      · rename_i y; obtain ⟨d, v, z, _⟩ := startE_get a (by rw [hNe] at hdl; simpa using hdl) i _ y; cases z
      · rename_i y; obtain ⟨d, v, z, _⟩ := startE_get a (by rw [hNe] at hdl; simpa using hdl) i _ y; cases z
      · cases e
  have hoc1 : ∀ i, ocOf (startM N c ds) (i + 1) = none := fun i => by rw [e1]; exact hocs i
  have SM : RS K cl (fun _ => p) F R H (L2.start N (.ref p :: ws)) (fun _ => p) (startM N c ds) := by
    refine ⟨h1, h2, by rw [e1, e2, List.length_cons, List.length_cons, S0.len], fun i d e => ?_, fun i o e => ?_, fun i j hij hi hj => ?_, fun i o e => rfl, h3, fun i c' ns fs e => ?_⟩
    · rw [e1] at e
      cases i with
      | zero => cases e
      | succ i => rw [e2]; exact S0.dat i d e
    · cases i with
      | zero => rw [e1] at e; cases e; rw [e2]; exact ⟨rfl, hF, hR, ow⟩
      | succ i => rw [hoc1] at e; cases e
    · cases i with
      | zero =>
        cases j with
        | zero => exact absurd rfl hij
        | succ j => rw [hoc1] at hj; cases hj
      | succ i => rw [hoc1] at hi; cases hi
    · rw [e1] at e
      cases i with
      | zero => cases e
      | succ i => obtain ⟨d', v, z, _⟩ := startE_get a (by rw [hNe] at hdl; simpa using hdl) i _ e; cases z
  refine ⟨_, F, R, _, _, o, SM, ho, ?_⟩
  unfold fin2 at hm
  obtain ⟨t, ht, hm⟩ := Option.bind_eq_some_iff.mp hm
  have key : ∀ (F' : Hp) (ad' : Nat → Addr) (σ' : L2.St) (H' : Hp) (e : En) (c' : OC), outE o = e → e[0]? = some (some (.par c')) → RS K cl (fun _ => p) F' R H' σ' ad' e → F' p = none ∧ OwnAt K cl F' H' p c' ∧ ad' 0 = p := fun F' ad' σ' H' e c' _ h0 S' => by
    obtain ⟨z1, z2, z3, z4⟩ := S'.oc 0 c' (oc_par h0)
    have ea : ad' 0 = p := S'.par 0 c' h0
    rw [ea] at z2 z4
    exact ⟨z2, z4, ea⟩
  obtain ⟨c', h0, hm⟩ := Option.bind_eq_some_iff.mp hm
  cases hm
  have h0 : (outE o)[0]? = some (some (Sl.par c')) := by
    unfold parOf at h0
    split at h0
    · cases h0; assumption
    · cases h0
  · cases o with
    | nx e =>
      cases ht
      intro F' ad' σ' H' l S'
      obtain ⟨z1, z2, z3⟩ := key F' ad' σ' H' e c' rfl h0 S'
      exact q F' H' .non l S'.fh S'.rh S'.dj z1 z2 .non (fun b hb => by cases hb)
    | bk e => cases ht
    | ct e => cases ht
    | rt rv e =>
      intro F' ad' σ' H' v l S' a'
      obtain ⟨z1, z2, z3⟩ := key F' ad' σ' H' e c' rfl h0 S'
      have fa := fin_at S' a' ht
      refine q F' H' v l S'.fh S'.rh S'.dj z1 z2 fa.1 (fun b hb ho => ?_)
      have := fa.2 0 c' h0 b hb ⟨_, ho⟩
      rw [z3] at this
      exact this
end
end Z

set_option Elab.async false
set_option linter.all false
set_option maxRecDepth 100000
set_option maxHeartbeats 1000000
/-! enumerate of a tuple. -/
namespace Z
open PySem PySem.Spec PyProof.Rows L2
open Sem (wp)
open AutoSeq1 (wpAny_loadPart')
theorem meets_enumerate_newT (l : Addr) (items : Array Value) (n : Nat) (dct : Option Addr) (sl : Array (Option Value)) :
    Meets (Builtin.«enumerate.__new__» ⟨[.type "enumerate", .ref l], []⟩) (fun _ R s => s.heap.get? l = some { cls := .type "tuple", dict := dct, data := .seq items n, slots := sl } ∧
      R (.ok (.ret (.ref (s.heap.push { cls := .type "tuple_iterator", data := .fields #[.ref l, .int 0 0] }).objs.size)))
        { s with heap := (s.heap.push { cls := .type "tuple_iterator", data := .fields #[.ref l, .int 0 0] }).push { cls := .type "enumerate", data := .fields #[.none, .bool false, .ref s.heap.objs.size, rawInt 0, .none, .none] } }) :=
  .of_wp fun prog w A R s h => by
    obtain ⟨hp, g, d, tk, os⟩ := s; obtain ⟨hl, h⟩ := h
    have hsub := sub_enumerate
    have hL : Heap.IsTuple (Shared.heap ⟨hp, g, d, tk, os⟩) l items := ⟨_, hl, rfl, n, rfl⟩
    wp_walk using wpAny_loadPart' hl
    refine wpAny_stack_any fun st => wpAny_pure ?_
    split
    · rename_i c _ _ _ _ _
      cases (c == Value.type "enumerate")
      · wp_walk using wpAny_loadPart' hl, wpAny_pyIter_tuple hL
        exact ⟨_, rfl, h⟩
      · wp_walk using wpAny_loadPart' hl, wpAny_pyIter_tuple hL
        exact ⟨_, rfl, h⟩
    · wp_walk using wpAny_loadPart' hl, wpAny_pyIter_tuple hL
      exact ⟨_, rfl, h⟩
section
variable {prog : Program} {w : World} {A : Around} {E : Value → Shared → Prop} {s : Shared}
theorem call_enumerate_tuple {l : Addr} {items : Array Value} {Q : Value → Shared → Prop} (hL : s.heap.IsTuple l items)
    (h : ∀ h', IsEnum h' (s.heap.objs.size + 1) s.heap.objs.size 0 .none → h'.IsTupleIter s.heap.objs.size l 0 → h'.objs.size = s.heap.objs.size + 2 →
      (∀ b o, s.heap.get? b = some o → h'.get? b = some o) → Q (.ref (s.heap.objs.size + 1)) { s with heap := h' }) :
    wpAny (model prog w) A (call (.type "enumerate") [.ref l]) Q E s := by
  obtain ⟨⟨c, dct, dt, sl⟩, hl, hc, n, hd⟩ := hL
  replace hc : c = .type "tuple" := hc
  replace hd : dt = .seq items n := hd
  subst hc hd
  refine callType_new F.called_enumerate (by decide) (F.typeCall_enumerate_1 _) (F.newCall_enumerate_1 _) (fun obj => F.args_object_init_2 obj _) F.entry_enumerate_new
    (meets_enumerate_newT l items n dct sl) ⟨hl, ?_⟩
  have hz : (s.heap.push { cls := .type "tuple_iterator", data := .fields #[.ref l, .int 0 0] }).objs.size = s.heap.objs.size + 1 := Heap.size_push ..
  show _ ∧ _
  rw [hz]
  have he : IsEnum ((s.heap.push { cls := .type "tuple_iterator", data := .fields #[.ref l, .int 0 0] }).push
      { cls := .type "enumerate", data := .fields #[.none, .bool false, .ref s.heap.objs.size, rawInt 0, .none, .none] }) (s.heap.objs.size + 1) s.heap.objs.size 0 .none := by
    have := Heap.get?_push_size (s.heap.push { cls := .type "tuple_iterator", data := .fields #[.ref l, .int 0 0] })
      (o := { cls := .type "enumerate", data := .fields #[.none, .bool false, .ref s.heap.objs.size, rawInt 0, .none, .none] }) rfl
    rw [hz] at this; exact this
  refine ⟨⟨_, he, rfl⟩, h _ he ⟨_, Heap.get?_push_of_some _ (Heap.get?_push_size _ rfl), rfl, rfl⟩ (by rw [Heap.size_push, hz]) fun b o x => Heap.get?_push_of_some _ (Heap.get?_push_of_some _ x)⟩
end
def IteT (K : PySem.W.Frag) (a : Addr) : It :=
  ⟨fun i H => ∃ (xs : List V) (x : V), SqT K H a xs ∧ xs[i]? = some x, fun i H v H' => ∃ T x, v = .ref T ∧ H T = none ∧ H' = upd H T (.tup [.int (i : Nat), x]) ∧ ∀ xs, SqT K H a xs → xs[i]? = some x, fun i H => ∃ xs : List V, SqT K H a xs ∧ xs.length = i⟩
theorem turn_enumT {P : Program} {w : World} {K : PySem.W.Frag} {elts : List Expr} {kk : Nat} {tpos : Pos} (a e it : Addr) :
    Turn P w K (.Tuple elts kk tpos) (IteT K a) [e, it] e (fun i h => (∃ old, IsEnum h e it ((i : Nat) : Int) old) ∧ h.IsTupleIter it a i ∧ e ≠ it ∧ a ≠ it ∧ a ≠ e) where
  mem := by simp
  obj := fun i h st b hb => by
    obtain ⟨⟨old, he⟩, ⟨o, ho, hc, hd⟩, _⟩ := st
    have e' : b = e ∨ b = it := by simpa using hb
    rcases e' with z | z
    · rw [z]; exact ⟨_, he, fun v q => nomatch q⟩
    · rw [z]; exact ⟨o, ho, fun v q => by rw [hd] at q; cases q⟩
  keep := fun i h h' st k => let ⟨⟨old, he⟩, hi, hne⟩ := st; ⟨⟨old, k e (by simp) _ he⟩, hi.at fun o q => k it (by simp) o q, hne⟩
  item := by
    intro X hP hw hK hc i pins s σ H E I hf st hg
    subst hP hw hK
    obtain ⟨⟨old, he⟩, hit, hne, hai, hae⟩ := st
    obtain ⟨xs, x, hq, hx⟩ := hg
    obtain ⟨its, rv, p, hz⟩ := I.tuple hq
    obtain ⟨u, hu, ru⟩ := rv.get hx
    have hel : e < s.heap.objs.size := Heap.lt_size he
    have hil : it < s.heap.objs.size := by obtain ⟨_, q, _⟩ := hit; exact Heap.lt_size q
    have hi : i < its.toArray.size := by have := (List.getElem?_eq_some_iff.mp hu).1; simpa using this
    refine wpAny_pyNext_enum_itemD (Draws.tuple (A := X.A.in1) (show X.A.in1.handled = none from I.ok.hd hc) it a hai its.toArray) he ⟨hit, show s.heap.IsTuple a its.toArray from p⟩ hi hne (by simp only [List.mem_cons, List.not_mem_nil, or_false, not_or]; exact ⟨hne, fun z => hae z.symm⟩) fun x' h' tk hP ho st' hT hsz hk => ?_
    have ex : x' = u := by
      have hP' : its.toArray[i]? = some x' := hP
      rw [List.getElem?_toArray, hu] at hP'
      cases hP'; rfl
    subst ex
    refine ⟨_, rfl, wpAny_letOwnedTupleGo_enum (s := { s with heap := h', toks := tk + 1 }) ho fun h'' he' sb => ?_⟩
    have hT2 : h''.get? s.heap.objs.size = some { cls := .type "tuple", data := .seq #[.int i tk, x'] } := (sb.2 _ (Nat.ne_of_gt hel)).trans hT
    have new : ObjOk X.prog X.w (upd H s.heap.objs.size (.tup [.int (i : Nat), x])) h'' s.heap.objs.size (.tup [.int (i : Nat), x]) :=
      ⟨by show 2 ≤ sizeLine; decide, [.int i tk, x'], .cons ⟨_, rfl⟩ (.cons ru .nil), ⟨_, hT2, rfl, _, rfl⟩⟩
    have I1 : Inv X pins σ (upd H s.heap.objs.size (.tup [.int (i : Nat), x])) { s with heap := h'', toks := tk + 1 } :=
      I.turnedNew (ch := [e, it]) (fun b ob hb q => (sb.2 b (fun z => hb (by simp [z]))).trans (hk b ob (fun z => hb (by simp [z])) (fun z => hb (by simp [z])) q)) hf (Nat.le_refl _) new
    refine ⟨.ref s.heap.objs.size, _, I1, rfl, ⟨_, x, rfl, I.hok.fresh (Nat.le_refl _), rfl, fun ys hy => by rw [I.tuple_inj hy hq]; exact hx⟩, ⟨⟨x', ?_⟩, st'.1.at fun o q => (sb.2 it (Ne.symm hne)).trans q, hne, hai, hae⟩, fun b hb => ?_⟩
    · have e1 : ((i + 1 : Nat) : Int) = (i : Int) + 1 := by omega
      rw [e1]; exact he'
    · have hb' : b < s.heap.objs.size := by
        have e' : b = e ∨ b = it := by simpa using hb
        rcases e' with z | z
        · rw [z]; exact hel
        · rw [z]; exact hil
      rw [upd_ne (Nat.ne_of_lt hb')]
      exact (hf b hb).1
  done := by
    intro X hP hw hK hc i pins s σ H E I hf st hg
    subst hP hw hK
    obtain ⟨⟨old, he⟩, hit, hne, hai, hae⟩ := st
    obtain ⟨xs, hq, hx⟩ := hg
    obtain ⟨its, rv, p, hz⟩ := I.tuple hq
    obtain ⟨f0, f1, f2, f3, f4, f5⟩ := hf it (by simp)
    have hl := rv.length
    have hi : i = its.toArray.size := by rw [List.size_toArray, ← hl, hx]
    subst hi
    exact wpAny_pyNext_enum_endD (Draws.tuple (A := X.A.in1) (show X.A.in1.handled = none from I.ok.hd hc) it a hai its.toArray) he ⟨hit, show s.heap.IsTuple a its.toArray from p⟩ fun h' eb => ⟨rfl, I.turned (t' := s.toks) (fun b o hb q => eb b o hb q) f0 f1 f3 f4 f5⟩
  self := fun A i s Q E st h => let ⟨⟨_, he⟩, _⟩ := st; wpAny_pyIter_enum he h
def iEnumT (K : PySem.W.Frag) (ta : TA) : TI := fun σ H R => ta σ H fun vs H1 => ∃ a xs, vs = [.ref a] ∧ SqT K H1 a xs ∧ R (IteT K a) H1
theorem pi_enumT {X : Cx} {e : Expr} {ta : TA} {p pos tpos : Pos} {elts : List Expr} {kk : Nat} (hg : Gl X "enumerate") (hm : X.mg "enumerate" = none) (ha : PA X [e] ta) (hs : starEach [e] X.env = [(false, eval e X.env)] := by rfl) :
    PI X (.Tuple elts kk tpos) (.Call (.Name "enumerate" p) [e] [] pos) (iEnumT X.K ta) := by
  refine ⟨fun pins s σ H R I h => ?_⟩
  refine Call_ (ld_blt I hg hm boot_enumerate (PyProof.Rows.callWith_type1 (thn (ha.run pos pins s σ H _ I h) fun us s1 ⟨vs, H1, I1, r1, q1⟩ => ?_) hs rfl))
  obtain ⟨a, xs, ex, hq, q⟩ := q1
  subst ex
  cases r1 with
  | cons r rr =>
    cases rr
    cases r
    obtain ⟨its, rv, p', hz⟩ := I1.tuple hq
    have hal : a < s1.heap.objs.size := p'.lt
    refine call_enumerate_tuple (show s1.heap.IsTuple a its.toArray from p') fun h' he hit hsz hk => wpAny_pyIter_enum he ?_
    have I2 : Inv X pins σ H1 { s1 with heap := h' } := I1.kept (t' := s1.toks) hk
    refine ⟨s1.heap.objs.size + 1, [s1.heap.objs.size + 1, s1.heap.objs.size], _, _, H1, rfl, I2, turn_enumT a (s1.heap.objs.size + 1) s1.heap.objs.size, ⟨⟨.none, he⟩, hit, Nat.succ_ne_self _, Nat.ne_of_lt hal, Nat.ne_of_lt (Nat.lt_succ_of_lt hal)⟩, fun b hb => ?_, q⟩
    have e' : b = s1.heap.objs.size + 1 ∨ b = s1.heap.objs.size := by simpa using hb
    have hle : s1.heap.objs.size ≤ b := by
      rcases e' with z | z
      · rw [z]; exact Nat.le_add_right _ _
      · rw [z]; exact Nat.le_refl _
    exact I1.fpOk hle (I1.hok.fresh hle)
/-! ### over data -/
def enumD (ds : List Z.D) : List Z.D := (List.range ds.length).zipWith (fun (i : Nat) d => Z.D.tup [.int (i : Int), d]) ds
theorem enumD_length (ds : List Z.D) : (enumD ds).length = ds.length := by unfold enumD; simp
theorem enumD_get {ds : List Z.D} {i : Nat} {e : Z.D} (h : (enumD ds)[i]? = some e) : ∃ d, ds[i]? = some d ∧ e = .tup [.int (i : Int), d] := by
  have hi := get_lt h
  rw [enumD_length] at hi
  unfold enumD at h
  rw [List.getElem?_zipWith, List.getElem?_range hi, List.getElem?_eq_getElem hi] at h
  cases h
  exact ⟨_, List.getElem?_eq_getElem hi, rfl⟩
section
variable {X : Cx} {cl : Str → Addr} {e : Expr} {pos : Pos}
theorem iter_enumL {K : PySem.W.Frag} {F : Hp} {a : Addr} {vs : List V} {ds : List Z.D} (h : ∀ H, Le F H → SqL K H a vs) (al : AtAll K cl F vs ds) : IterOf K cl F (Ite K a) (enumD ds) where
  go := fun F2 H i l1 l2 hi => by
    rw [enumD_length] at hi
    have hv : i < vs.length := by rw [al.length]; exact hi
    exact ⟨vs, vs[i], h H (l1.trans l2), List.getElem?_eq_getElem hv⟩
  stop := fun F2 H l1 l2 => ⟨vs, h H (l1.trans l2), by rw [enumD_length, al.length]; exact Nat.le_refl _⟩
  yld := fun F2 H i x H' d l1 l2 hd hy => by
    obtain ⟨T, y, rfl, hT, rfl, hy⟩ := hy
    obtain ⟨d', h0, rfl⟩ := enumD_get hd
    obtain ⟨v, h1, h2⟩ := al.get h0
    have := hy vs (h H (l1.trans l2))
    rw [h1] at this; cases this
    exact ⟨_, .fr T _ hT, .tup upd_same (.cons (.int _) (.cons (h2.mono (l1.trans (Le.put (l2.fresh hT)))) .nil))⟩
theorem iter_enumT {K : PySem.W.Frag} {F : Hp} {a : Addr} {vs : List V} {ds : List Z.D} (h : ∀ H, Le F H → SqT K H a vs) (al : AtAll K cl F vs ds) : IterOf K cl F (IteT K a) (enumD ds) where
  go := fun F2 H i l1 l2 hi => by
    rw [enumD_length] at hi
    have hv : i < vs.length := by rw [al.length]; exact hi
    exact ⟨vs, vs[i], h H (l1.trans l2), List.getElem?_eq_getElem hv⟩
  stop := fun F2 H l1 l2 => ⟨vs, h H (l1.trans l2), by rw [enumD_length, al.length]⟩
  yld := fun F2 H i x H' d l1 l2 hd hy => by
    obtain ⟨T, y, rfl, hT, rfl, hy⟩ := hy
    obtain ⟨d', h0, rfl⟩ := enumD_get hd
    obtain ⟨v, h1, h2⟩ := al.get h0
    have := hy vs (h H (l1.trans l2))
    rw [h1] at this; cases this
    exact ⟨_, .fr T _ hT, .tup upd_same (.cons (.int _) (.cons (h2.mono (l1.trans (Le.put (l2.fresh hT)))) .nil))⟩
def enmI (fs : Fa) : Fi := fun env => (fs env).bind fun p => (kpL p.2 p.1).bind fun q => match q.1 with
  | [.lst ds] => some (enumD ds, q.2)
  | [.tup ds] => some (enumD ds, q.2)
  | _ => none
theorem pi_enmZ {p tpos : Pos} {elts : List Expr} {kk : Nat} {fs : Fa} (hm : X.mg "enumerate" = none) (ha : PA X [e] (tL X.K cl fs)) (hg : Gl X "enumerate" := by rfl) (hs : starEach [e] X.env = [(false, eval e X.env)] := by rfl) : PI X (.Tuple elts kk tpos) (.Call (.Name "enumerate" p) [e] [] pos) (tI X.K cl (enmI fs)) := by
  refine PI_weak (PI_or (pi_enum hg hm ha hs) (pi_enumT hg hm ha hs)) fun σ H R q => ?_
  obtain ⟨pa, F, Rr, ad, env, ds, env', S, hf, k⟩ := q
  unfold enmI at hf
  obtain ⟨⟨rs, e1⟩, h1, hf⟩ := Option.bind_eq_some_iff.mp hf
  obtain ⟨⟨xs, e2⟩, h2, hf⟩ := Option.bind_eq_some_iff.mp hf
  dsimp only at hf
  split at hf
  · cases hf
    refine .inl ⟨pa, F, Rr, ad, env, rs, e1, S, h1, fun F1 ad1 H1 vs le1 S1 a1 => ?_⟩
    obtain ⟨F2, l2, S2, a2⟩ := S1.keepL a1 h2
    cases a2 with
    | cons b1 b2 =>
      cases b2
      obtain ⟨p, ws, rfl, e3, al⟩ := at_lstF b1
      exact ⟨p, ws, rfl, SqL.of (S2.fh _ _ e3), k F2 ad1 H1 _ (le1.trans l2) S2 (iter_enumL (fun H h => SqL.of (h _ _ e3)) al)⟩
  · cases hf
    refine .inr ⟨pa, F, Rr, ad, env, rs, e1, S, h1, fun F1 ad1 H1 vs le1 S1 a1 => ?_⟩
    obtain ⟨F2, l2, S2, a2⟩ := S1.keepL a1 h2
    cases a2 with
    | cons b1 b2 =>
      cases b2
      obtain ⟨p, ws, rfl, e3, al⟩ := at_tupF b1
      exact ⟨p, ws, rfl, SqT.of (S2.fh _ _ e3), k F2 ad1 H1 _ (le1.trans l2) S2 (iter_enumT (fun H h => SqT.of (h _ _ e3)) al)⟩
  · cases hf
/-! ### range downwards -/
def rngC (lo c : Int) (n : Nat) : List Z.D := (List.range n).map fun (i : Nat) => Z.D.int (lo + (i : Int) * c)
theorem iter_rngC {K : PySem.W.Frag} {F : Hp} (lo c : Int) (n : Nat) : IterOf K cl F (Itc lo c n) (rngC lo c n) where
  go := fun F2 H i l1 l2 hi => by show i < n; unfold rngC at hi; simpa using hi
  stop := fun F2 H l1 l2 => by show n ≤ (rngC lo c n).length; unfold rngC; simp
  yld := fun F2 H i x H' d l1 l2 hd hy => by
    obtain ⟨rfl, rfl⟩ := hy
    have hi := get_lt hd
    unfold rngC at hi hd
    simp at hi
    rw [List.getElem?_map, List.getElem?_range hi] at hd
    cases hd
    exact ⟨F2, .no, .int _⟩
def rngI3 (fs : Fa) : Fi := fun env => (fs env).bind fun p => (rdL p.2 p.1).bind fun ds => match ds with
  | [.int i, .int j, .int (-1)] => if i.natAbs < 2 ^ 61 ∧ j.natAbs < 2 ^ 61 then some (rngC i (-1) (i - j).toNat, p.2) else none
  | _ => none
theorem pair3 {R : V → Z.D → Prop} {xs : List V} {d e f : Z.D} (h : Paired R xs [d, e, f]) : ∃ u v w, xs = [u, v, w] ∧ R u d ∧ R v e ∧ R w f := by
  cases h with | cons a b => cases b with | cons c g => cases g with | cons h i => cases i; exact ⟨_, _, _, rfl, a, c, h⟩
theorem pi_rng3 {tg a b c : Expr} {p : Pos} {fs : Fa} (hm : X.mg "range" = none) (ha : PA X [a, b, c] (tL X.K cl fs)) (hg : Gl X "range" := by rfl) (hs : starEach [a, b, c] X.env = (false, eval a X.env) :: starEach [b, c] X.env := by rfl) (hpl : (backTo pos (starEach [b, c] X.env)).any (·.1) = false := by rfl) :
    PI X tg (.Call (.Name "range" p) [a, b, c] [] pos) (tI X.K cl (rngI3 fs)) := by
  refine PI_weak (pi_range3 hg hm ha hs hpl) fun σ H R q => ?_
  obtain ⟨pa, F, Rr, ad, env, ds, env', S, hf, k⟩ := q
  unfold rngI3 at hf
  obtain ⟨⟨r1, e1⟩, h1, hf⟩ := Option.bind_eq_some_iff.mp hf
  obtain ⟨xs, h2, hf⟩ := Option.bind_eq_some_iff.mp hf
  split at hf
  · split at hf
    · rename_i i j hj
      cases hf
      refine ⟨pa, F, Rr, ad, env, _, _, S, h1, fun F1 ad1 H1 vs le1 S1 a1 => ?_⟩
      obtain ⟨u, v, w, rfl, t1, t2, t3⟩ := pair3 (S1.readL a1 h2)
      rw [at_int t1, at_int t2, at_int t3]
      exact ⟨i, j, -1, _, rfl, RgC.neg (by omega) (by omega) (by omega) (by omega), k F1 ad1 H1 _ le1 S1 (iter_rngC i (-1) _)⟩
    · cases hf
  · cases hf
/-! ### list(range(..)) -/
theorem rgV_at {K : PySem.W.Frag} {F : Hp} (a b : Int) : AtAll K cl F (rgV a b) (rngD a (b - a).toNat) := by
  unfold rgV rngD
  generalize (List.range (b - a).toNat) = l
  induction l with
  | nil => exact .nil
  | cons x r ih => exact .cons (.int _) ih
def lrgS (fs : Fa) : Fe := fun env => (fs env).bind fun p => (rdL p.2 p.1).bind fun ds => match ds with
  | [.int n] => if n.natAbs ≤ 16777216 then some (.own (.lst (rngD 0 n.toNat)), p.2) else none
  | _ => none
theorem pr_lrg {f : Fe} {st : Expr} (h : PE X st (tLstRg (tRg1 (tR X.K cl f)))) : PE X st (tR X.K cl (lrgS (consL f nilL))) := by
  refine PE_weak h fun σ H Q q => ?_
  obtain ⟨pa, F, R, ad, env, rv, env', S, hf, k⟩ := q
  unfold lrgS consL nilL at hf
  obtain ⟨⟨rs, e1⟩, h1, hf⟩ := Option.bind_eq_some_iff.mp hf
  obtain ⟨⟨r1, e2⟩, h2, h1⟩ := Option.bind_eq_some_iff.mp h1
  cases h1
  obtain ⟨ds, h3, hf⟩ := Option.bind_eq_some_iff.mp hf
  dsimp only at hf h3
  split at hf
  · rename_i n
    split at hf
    · rename_i hn
      cases hf
      refine ⟨pa, F, R, ad, env, r1, _, S, h2, fun F1 ad1 H1 v l S1 a1 => ?_⟩
      obtain ⟨F2, l2, S2, a2⟩ := S1.fzz a1
      obtain ⟨w, hw, t⟩ := pair1 (S2.readL (.cons a2 .nil) h3)
      cases hw
      rw [at_int t]
      refine ⟨n, rfl, ⟨by omega, by omega, by omega, by omega, by omega⟩, fun q hq => ?_⟩
      have res : Res X.K cl F2 H1 (.own (.lst (rngD 0 n.toNat))) Q := S2.res fun F3 ad3 H3 v le3 S3 a3 => k F3 ad3 H3 v ((l.trans l2).trans le3) S3 a3
      have ea := rgV_at (cl := cl) (K := X.K) (F := F2) 0 n
      rw [show n - 0 = n by omega] at ea
      exact res.lst hq ea
    · cases hf
  · cases hf
/-! ### min of two ints, of a list -/
def minG : List Z.D → Option Rv
  | [.int i, .int j] => some (.dat (.int (if j < i then j else i)))
  | [.lst ds] => (intsOf ds).bind fun ns => match ns with
    | [] => none
    | n :: r => some (.dat (.int (r.foldl min n)))
  | _ => none
theorem foldl_min_le : ∀ (r : List Int) (n : Int), r.foldl min n ≤ n ∧ ∀ y ∈ r, r.foldl min n ≤ y
  | [], n => ⟨Int.le_refl _, fun y hy => nomatch hy⟩
  | x :: r, n => by
    obtain ⟨h1, h2⟩ := foldl_min_le r (min n x)
    refine ⟨by rw [List.foldl_cons]; omega, fun y hy => ?_⟩
    rw [List.foldl_cons]
    rcases List.mem_cons.mp hy with e | e
    · rw [e]; omega
    · exact h2 y e
theorem foldl_min_mem : ∀ (r : List Int) (n : Int), r.foldl min n ∈ n :: r
  | [], n => by simp
  | x :: r, n => by
    have := foldl_min_mem r (min n x)
    rw [List.foldl_cons]
    rcases List.mem_cons.mp this with e | e
    · rw [e]
      rcases Int.le_total n x with z | z
      · rw [Int.min_eq_left z]; simp
      · rw [Int.min_eq_right z]; simp
    · simp [e]
def rMinZ (K : PySem.W.Frag) : List V → Hp → VK → Prop := fun xs H Q => (∃ i j, xs = [.int i, .int j] ∧ Q (.int (if j < i then j else i)) H) ∨ rMin K xs H Q
theorem call_minZ (hc : X.calm = true) : CallR X (.builtin "min") (rMinZ X.K) := (call_min2 hc).or (cr_min hc)
theorem min_ok {K : PySem.W.Frag} : OpL K cl minG (rMinZ K) := by
  intro F H xs ds rv Q le hx hg res
  unfold minG at hg
  split at hg
  · cases hg
    obtain ⟨v, w, rfl, h1, h2⟩ := pair2 hx
    rw [at_int h1, at_int h2]
    exact .inl ⟨_, _, rfl, res.dat0 (.int _)⟩
  · obtain ⟨ns, h1, hg⟩ := Option.bind_eq_some_iff.mp hg
    split at hg
    · cases hg
    · rename_i n r
      cases hg
      obtain ⟨v, rfl, h⟩ := pair1 hx
      rw [intsOf_eq h1] at h
      obtain ⟨a, vs, rfl, e, al⟩ := h
      rw [al.intsV] at e
      refine .inr ⟨a, n :: r, rfl, SqL.of e, by simp, fun m hm hle => ?_⟩
      obtain ⟨f1, f2⟩ := foldl_min_le r n
      have f3 := foldl_min_mem r n
      have e1 : m = r.foldl min n := by
        have g1 := hle _ f3
        rcases List.mem_cons.mp hm with z | z
        · omega
        · have := f2 m z; omega
      rw [e1]
      exact res.dat0 (.int _)
  · cases hg
end
end Z

set_option Elab.async false
set_option linter.all false
set_option maxRecDepth 100000
set_option maxHeartbeats 1000000
/-! Instances. -/
namespace Z
open PySem PySem.Spec PyProof.Rows L2
theorem lk_zip {α β : Type} {R : α → β → Prop} : ∀ {ns : List Str} {vs : List α} {ds : List β} {f : Str} {d : β}, Paired R vs ds → ns.length = vs.length → (ns.zip ds).lookup f = some d → ∃ v, (ns.zip vs).lookup f = some v ∧ R v d
  | [], _, _, _, _, _, _, h => by simp at h
  | n :: ns, _, _, f, d, .nil, hl, h => by simp at hl
  | n :: ns, v :: vs, e :: ds, f, d, .cons a t, hl, h => by
    rw [List.zip_cons_cons, List.lookup_cons] at h ⊢
    cases hb : f == n with
    | true => rw [hb] at h; cases h; exact ⟨v, rfl, a⟩
    | false => rw [hb] at h; exact lk_zip t (by simpa using hl) h
theorem atAll_paired {K : PySem.W.Frag} {cl : Str → Addr} : ∀ {F : Hp} {vs : List V} {ds : List Z.D}, AtAll K cl F vs ds → Paired (At K cl F) vs ds
  | _, _, _, .nil => .nil
  | _, _, _, .cons h t => .cons h (atAll_paired t)
theorem lk_none {α : Type} : ∀ {ns : List Str} {vs : List α} {f : Str}, f ∉ ns → (ns.zip vs).lookup f = none
  | [], _, _, _ => by simp
  | n :: ns, [], f, _ => by simp
  | n :: ns, v :: vs, f, h => by
    rw [List.zip_cons_cons, List.lookup_cons]
    have hb : (f == n) = false := by
      cases e : f == n with
      | false => rfl
      | true => exact absurd (by rw [LawfulBEq.eq_of_beq e]; exact List.mem_cons_self ..) h
    rw [hb]
    exact lk_none (fun z => h (List.mem_cons_of_mem _ z))
theorem putF_new : ∀ {ns : List Str} {vs : List V} {f : Str} {y : V}, f ∉ ns → ns.length = vs.length → putF f y (ns.zip vs) = (ns ++ [f]).zip (vs ++ [y])
  | [], [], f, y, _, _ => rfl
  | [], _ :: _, _, _, _, h => by simp at h
  | _ :: _, [], _, _, _, h => by simp at h
  | n :: ns, v :: vs, f, y, h, hl => by
    have hn : ¬ n = f := fun z => h (by rw [z]; exact List.mem_cons_self ..)
    rw [List.cons_append, List.cons_append, List.zip_cons_cons, List.zip_cons_cons]
    show putF f y ((n, v) :: ns.zip vs) = _
    unfold putF
    rw [if_neg hn, putF_new (fun z => h (List.mem_cons_of_mem _ z)) (by simpa using hl)]
section
variable {X : Cx} {cl : Str → Addr} {e : Expr} {pos : Pos}
/-! ### attributes of an instance that is data -/
def fldD (c f : Str) : Z.D → Option Z.D
  | .obj c' ns ds => if c' = c then (ns.zip ds).lookup f else none
  | _ => none
def fldS (c f : Str) (fa : Fe) : Fe := fun env => (fa env).bind fun p => (rd p.2 (fz p.1)).bind fun d => (fldD c f d).bind fun d' => some (.dat d', p.2)
theorem pr_fld (c : Str) {f : Str} {fa : Fe} (hC : Cls X.K (cl c)) (hA : NoAttr X.K (cl c) f) (he : PE X e (tR X.K cl fa)) (hb : attributeBase e f X.env (eval e X.env) = eval e X.env := by rfl) : PE X (.Attribute e f pos) (tR X.K cl (fldS c f fa)) := by
  refine PE_weak (pe_fld he hb) fun σ H Q q => ?_
  obtain ⟨pa, F, R, ad, env, rv, env', S, hf, k⟩ := q
  unfold fldS at hf
  obtain ⟨⟨r1, e1⟩, h1, hf⟩ := Option.bind_eq_some_iff.mp hf
  obtain ⟨d, h2, hf⟩ := Option.bind_eq_some_iff.mp hf
  obtain ⟨d', h3, hf⟩ := Option.bind_eq_some_iff.mp hf
  cases hf
  refine ⟨pa, F, R, ad, env, r1, e1, S, h1, fun F1 ad1 H1 v l S1 a1 => ?_⟩
  obtain ⟨F2, l2, S2, a2⟩ := S1.fzz a1
  have t := S2.read a2 h2
  unfold fldD at h3
  split at h3
  · split at h3
    · rename_i hc
      subst hc
      cases t with
      | obj e1 hl al =>
        obtain ⟨w, w1, w2⟩ := lk_zip (atAll_paired al) hl h3
        exact ⟨_, _, _, _, w, rfl, S2.fh _ _ e1, hC, hA, w1, k F2 ad1 H1 w (l.trans l2) S2 w2⟩
    · cases h3
  · cases h3
/-! ### of the instance that is being made (slot 0) -/
def lnkD (env : En) : Fv → Option Rv
  | .dat d => some (.dat d)
  | .lnk g => match env[g]? with
    | some (some (Sl.par _)) => some (.slot g)
    | _ => none
def selfD (c f : Str) (env : En) : Option Rv := match env[(0 : Nat)]? with
  | some (some (Sl.slf c' ns fs)) => if c' = c then ((ns.zip fs).lookup f).bind (lnkD env) else none
  | _ => none
def selfS (c f : Str) : Fe := fun env => (selfD c f env).bind fun r => some (r, env)
theorem selfD_ok {K : PySem.W.Frag} {pa : Nat → Addr} {F R H : Hp} {σ : L2.St} {ad : Nat → Addr} {env : En} {c f : Str} {r : Rv} (S : RS K cl pa F R H σ ad env) (h : selfD c f env = some r) :
    ∃ (dx : Addr) (ns : List Str) (vs : List V) (v : V), σ[0]? = some (some (.ref (pa 0))) ∧ H (pa 0) = some (.ins (cl c) dx (ns.zip vs)) ∧ (ns.zip vs).lookup f = some v ∧ RvF K cl F σ v r := by
  unfold selfD at h
  split at h
  · rename_i c' ns fs he
    split at h
    · rename_i hc
      subst hc
      obtain ⟨fv, h1, h2⟩ := Option.bind_eq_some_iff.mp h
      obtain ⟨q1, dx, vs, q2, q3, q4⟩ := S.slf 0 _ ns fs he
      obtain ⟨v, v1, v2⟩ := lk_zip q4 q3 h1
      refine ⟨dx, ns, vs, v, q1, S.rh _ _ q2, v1, ?_⟩
      cases fv with
      | dat d => cases h2; exact v2
      | lnk g =>
        unfold lnkD at h2
        dsimp only at h2
        split at h2
        · rename_i o hg
          cases h2
          have e1 := S.par g o hg
          obtain ⟨z1, _⟩ := S.oc g o (oc_par hg)
          show σ[g]? = some (some v)
          rw [show v = .ref (pa g) from v2, ← e1]
          exact z1
        · cases h2
    · cases h
  · cases h
theorem pr_self (c : Str) {f x : Str} {px : Pos} (hC : Cls X.K (cl c)) (hA : NoAttr X.K (cl c) f) (hx : PE X (.Name x px) (tVar 0)) (hb : attributeBase (.Name x px) f X.env (eval (.Name x px) X.env) = eval (.Name x px) X.env := by rfl) : PE X (.Attribute (.Name x px) f pos) (tR X.K cl (selfS c f)) := by
  refine PE_weak (pe_fld hx hb) fun σ H Q q => ?_
  obtain ⟨pa, F, R, ad, env, rv, env', S, hf, k⟩ := q
  unfold selfS at hf
  obtain ⟨r, h1, hf⟩ := Option.bind_eq_some_iff.mp hf
  cases hf
  obtain ⟨dx, ns, vs, v, q1, q2, q3, q4⟩ := selfD_ok S h1
  exact ⟨.ref (pa 0), q1, pa 0, _, dx, _, v, rfl, q2, hC, hA, q3, k F ad H v (Le.refl _) S (rvAt_of q4)⟩
/-! ### methods -/
def methD (c m : Str) : Z.D → Bool
  | .obj c' ns _ => decide (c' = c) && decide (m ∉ ns)
  | _ => false
def methS (c mn : Str) (m : List Z.D → Option Rt) (fo : Fe) (fs : Fa) : Fe := fun env => (fo env).bind fun p => (kp p.2 (fz p.1)).bind fun k => if methD c mn k.1 = true then (fs k.2).bind fun q => (kpL q.2 q.1).bind fun s => (m (k.1 :: s.1)).bind fun r => some (r.rv, s.2) else none
theorem pr_meth {c mn : Str} {n : Nat} {m : List Z.D → Option Rt} {fo : Fe} {fs : Fa} {t : TA} {E : XK} (h : PE X e (tMeth (cl c) mn (spP X.K cl n m) [] E (tR X.K cl fo) t)) (ht : ∀ σ H Q, tL X.K cl fs σ H Q → t σ H Q)
    (hlen : ∀ (env : En) (rvs : List Rv) (env' : En), fs env = some (rvs, env') → rvs.length + 1 = n) : PE X e (tR X.K cl (methS c mn m fo fs)) := by
  refine PE_weak h fun σ H Q q => ?_
  obtain ⟨pa, F, R, ad, env, rv, env', S, hf, k⟩ := q
  unfold methS at hf
  obtain ⟨⟨r1, e1⟩, h1, hf⟩ := Option.bind_eq_some_iff.mp hf
  obtain ⟨⟨d, e2⟩, h2, hf⟩ := Option.bind_eq_some_iff.mp hf
  dsimp only at hf
  split at hf
  · rename_i hm
    obtain ⟨⟨rs, e3⟩, h3, hf⟩ := Option.bind_eq_some_iff.mp hf
    obtain ⟨⟨ds, e4⟩, h4, hf⟩ := Option.bind_eq_some_iff.mp hf
    obtain ⟨r, h5, hf⟩ := Option.bind_eq_some_iff.mp hf
    cases hf
    refine ⟨pa, F, R, ad, env, r1, e1, S, h1, fun F1 ad1 H1 v l S1 a1 => ?_⟩
    obtain ⟨F2, l2, S2, a2⟩ := S1.fzz a1
    obtain ⟨F3, l3, S3, a3⟩ := S2.keep a2 h2
    cases d with
    | obj c' ns es =>
      change (decide (c' = c) && decide (mn ∉ ns)) = true at hm
      rw [Bool.and_eq_true_iff] at hm
      have hc := of_decide_eq_true hm.1
      have hn := of_decide_eq_true hm.2
      subst hc
      have a3' := a3
      cases a3 with
      | obj o1 o2 o3 =>
        refine ⟨_, _, _, rfl, S3.fh _ _ o1, lk_none hn, ht _ _ _ ⟨pa, F3, R, ad1, e2, rs, e3, S3, h3, fun F4 ad4 H4 vs l4 S4 a4 => ?_⟩⟩
        obtain ⟨F5, l5, S5, a5⟩ := S4.keepL a4 h4
        show spP X.K cl n m (_ :: (vs ++ [])) H4 Q E
        rw [List.append_nil]
        refine ⟨by rw [List.length_cons, pair_len a4]; exact hlen _ _ _ h3, F5, withOwn R H4 ad4 e4, _ :: ds, r, h5, S5.fh, S5.rown, S5.down, .cons (a3'.mono (l4.trans l5)) a5, fun F6 H6 v l6 b1 b2 b3 b4 => ?_⟩
        exact k F6 ad4 H6 v (((((l.trans l2).trans l3).trans l4).trans l5).trans l6) (S5.after l6 b1 b2 b3) (RtAt.rv S5 b4)
    | _ => cases hm
  · cases hf
theorem tNil_of : ∀ σ H Q, tL X.K cl nilL σ H Q → tNil σ H Q := by
  intro σ H Q q
  obtain ⟨pa, F, R, ad, env, rv, env', S, hf, k⟩ := q
  cases hf
  exact k F ad H [] (Le.refl _) S .nil
end
/-! ### an instance made -/
section
variable (K : PySem.W.Frag) (cl : Str → Addr)
def spI (c : Str) (n : Nat) (m : List Z.D → Option (List Str × List Z.D)) : Sp := fun vs H Q _ => vs.length = n ∧ ∃ F R x dx ws ds r, vs = .ref x :: ws ∧ m ds = some r ∧ Le F H ∧ Le R H ∧ Dj R F ∧
  H x = some (.ins (cl c) dx []) ∧ H dx = some (.own x) ∧ F x = none ∧ R x = none ∧ F dx = none ∧ R dx = none ∧ dx ≠ x ∧ AtAll K cl F ws ds ∧
  ∀ F' H', Le F F' → Le F' H' → Le R H' → Dj R F' → At K cl F' (.ref x) (.obj c r.1 r.2) → Q .non H'
end
section
variable {X : Cx} {cl : Str → Addr} {e : Expr} {pos : Pos}
def makS (c : Str) (m : List Z.D → Option (List Str × List Z.D)) (fs : Fa) : Fe := fun env => (fs env).bind fun p => (kpL p.2 p.1).bind fun q => (m q.1).bind fun r => some (.dat (.obj c r.1 r.2), q.2)
theorem pr_make {c : Str} {n : Nat} {m : List Z.D → Option (List Str × List Z.D)} {fs : Fa} {E : XK} (h : PE X e (tMake (cl c) (spI X.K cl c n m) [] E (tL X.K cl fs))) (hlen : ∀ (env : En) (rvs : List Rv) (env' : En), fs env = some (rvs, env') → rvs.length + 1 = n) : PE X e (tR X.K cl (makS c m fs)) := by
  refine PE_weak h fun σ H Q q => ?_
  obtain ⟨pa, F, R, ad, env, rv, env', S, hf, k⟩ := q
  unfold makS at hf
  obtain ⟨⟨rs, e1⟩, h1, hf⟩ := Option.bind_eq_some_iff.mp hf
  obtain ⟨⟨ds, e2⟩, h2, hf⟩ := Option.bind_eq_some_iff.mp hf
  obtain ⟨r, h3, hf⟩ := Option.bind_eq_some_iff.mp hf
  cases hf
  refine ⟨pa, F, R, ad, env, rs, e1, S, h1, fun F1 ad1 H1 vs l S1 a1 x dx hx hdx hne => ?_⟩
  obtain ⟨F2, l2, S2, a2⟩ := S1.keepL a1 h2
  have S3 : RS X.K cl pa F2 R (upd H1 dx (.own x)) σ ad1 e2 := S2.newAt hdx
  have hx3 : upd H1 dx (.own x) x = none := by rw [upd_ne (Ne.symm hne)]; exact hx
  have S4 : RS X.K cl pa F2 R (upd (upd H1 dx (.own x)) x (.ins (cl c) dx [])) σ ad1 e2 := S3.newAt hx3
  have wn : ∀ p, H1 p = none → withOwn R (upd (upd H1 dx (.own x)) x (.ins (cl c) dx [])) ad1 e2 p = none := fun p hp => by
    rw [withOwn_ne]
    · exact S2.rh.fresh hp
    · intro j hj z
      cases e : ocOf e2 j with
      | none => rw [e] at hj; cases hj
      | some u =>
        obtain ⟨_, _, _, q4⟩ := S2.oc j u e
        obtain ⟨ob, hb⟩ := q4.has
        rw [z, hp] at hb; cases hb
  rw [List.append_nil]
  refine ⟨by rw [List.length_cons, pair_len a1]; exact hlen _ _ _ h1, F2, withOwn R (upd (upd H1 dx (.own x)) x (.ins (cl c) dx [])) ad1 e2, x, dx, vs, ds, r, rfl, h3, S4.fh, S4.rown, S4.down, upd_same, by rw [upd_ne hne]; exact upd_same,
    S2.fh.fresh hx, wn x hx, S2.fh.fresh hdx, wn dx hdx, hne, a2, fun F5 H5 l5 b1 b2 b3 b4 => ⟨rfl, ?_⟩⟩
  exact k F5 ad1 H5 (.ref x) ((l.trans l2).trans l5) (S4.after l5 b1 b2 b3) b4
end
end Z

set_option Elab.async false
set_option linter.all false
set_option maxRecDepth 100000
set_option maxHeartbeats 1000000
/-! The making of an instance. -/
namespace Z
open PySem PySem.Spec PyProof.Rows L2
section
variable {X : Cx} {pins : List (Addr × Obj)} {σ : List (Option V)} {H : Hp} {s : Shared} {st : Stmt}
theorem inv_ghost {g : Nat} {v : Option V} (I : Inv X pins σ H s) (hg : ∀ x, X.N[g]? = some x → ¬ Vis X.env.scope x) : Inv X pins (σ.set g v) H s :=
  ⟨I.ok, I.os, I.bare, I.base, let ⟨m, hn, hl⟩ := I.loc; ⟨m, hn, fun i x w e1 e2 e3 => by
    by_cases z : g = i
    · subst z; exact absurd e3 (hg x e1)
    · rw [List.getElem?_set_ne z] at e2; exact hl i x w e1 e2 e3⟩, I.cell, I.free, I.freeC, I.pin, I.hok, by rw [List.length_set]; exact I.len⟩
theorem ps_ghost {t : TS} (g : Nat) (hg : ∀ x, X.N[g]? = some x → ¬ Vis X.env.scope x) (h : PS X st t) : PS X st (fun E σ H => t { E with nx := fun σ' H' => ∃ v, E.nx (σ'.set g v) H' } σ H) := ⟨fun pins s σ H D I q => thn (h.run pins s σ H _ I q) fun f s' r => by
  cases f with
  | next => obtain ⟨σ', H', I', v, q⟩ := r; exact ⟨_, H', inv_ghost I' hg, q⟩
  | brk => exact r
  | cont => exact r
  | ret u => exact r⟩
end
section
variable {K : PySem.W.Frag} {cl : Str → Addr} {pa : Nat → Addr} {F F' R H H' : Hp} {σ : L2.St} {ad : Nat → Addr} {env env' : En}
def isSlf : Option Sl → Bool
  | some (.slf _ _ _) => true
  | _ => false
def oneSlf : En → Bool
  | [] => false
  | _ :: r => r.all fun s => !isSlf s
theorem oneSlf_eq : ∀ {env : En}, oneSlf env = true → ∀ (i : Nat) (c : Str) (ns : List Str) (fs : List Fv), env[i]? = some (some (.slf c ns fs)) → i = 0
  | [], h, _, _, _, _, _ => by cases h
  | a :: r, h, 0, _, _, _, _ => rfl
  | a :: r, h, i + 1, c, ns, fs, e => by
    have e' : r[i]? = some (some (.slf c ns fs)) := by simpa using e
    have := List.all_eq_true.mp h _ (List.mem_of_getElem? e')
    cases this
def noLnk (g : Nat) : Fv → Bool
  | .dat _ => true
  | .lnk h => h != g
theorem paired_lnk {g : Nat} {a : Addr} : ∀ {vs : List V} {fs : List Fv}, fs.all (noLnk g) = true → Paired (FvAt K cl pa F) vs fs → Paired (FvAt K cl (fun j => if j = g then a else pa j) F) vs fs
  | _, _, _, .nil => .nil
  | _, f :: _, h, .cons x t => by
    rw [List.all_cons, Bool.and_eq_true_iff] at h
    refine .cons ?_ (paired_lnk h.2 t)
    cases f with
    | dat d => exact x
    | lnk k =>
      have hk : k ≠ g := by have := h.1; unfold noLnk at this; simpa using this
      show _ = V.ref (if k = g then a else pa k)
      rw [if_neg hk]; exact x
theorem paired_snoc {α β : Type} {P : α → β → Prop} {x : α} {y : β} (h : P x y) : ∀ {vs : List α} {fs : List β}, Paired P vs fs → Paired P (vs ++ [x]) (fs ++ [y])
  | _, _, .nil => .cons h .nil
  | _, _, .cons a t => .cons a (paired_snoc h t)
theorem RS.link {g : Nat} {a : Addr} {o : OC} (S : RS K cl pa F R H σ ad env) (hg : env[g]? = some none) (hone : oneSlf env = true) (hfs : ∀ c ns fs, env[(0 : Nat)]? = some (some (Sl.slf c ns fs)) → fs.all (noLnk g) = true)
    (h1 : F a = none) (h2 : R a = none) (h3 : OwnAt K cl F H a o) (h4 : ∀ j, (ocOf env j).isSome = true → ad j ≠ a) :
    RS K cl (fun j => if j = g then a else pa j) F R H (σ.set g (some (.ref a))) (fun j => if j = g then a else ad j) (env.set g (some (.par o))) := by
  have hi : g < env.length := get_lt hg
  have hs : (env.set g (some (Sl.par o)))[g]? = some (some (.par o)) := by simp [hi]
  have hσ : (σ.set g (some (.ref a)))[g]? = some (some (V.ref a)) := by have := S.len ▸ hi; simp [this]
  refine ⟨S.fh, S.rh, by rw [List.length_set, List.length_set]; exact S.len, fun j e hj => ?_, fun j u hj => ?_, fun j k hjk hj hk => ?_, fun j u hj => ?_, S.dj, fun j c ns fs hj => ?_⟩
  · by_cases z : g = j
    · subst z; rw [hs] at hj; cases hj
    · rw [List.getElem?_set_ne z] at hj ⊢; exact S.dat j e hj
  · by_cases z : g = j
    · subst z; rw [oc_par hs] at hj; cases hj
      simp only [if_pos]
      exact ⟨hσ, h1, h2, h3⟩
    · rw [oc_set_ne z] at hj; rw [List.getElem?_set_ne z]
      simp only [if_neg (Ne.symm z)]
      exact S.oc j u hj
  · by_cases z : g = j
    · subst z
      simp only [if_pos, if_neg (Ne.symm hjk)]
      rw [oc_set_ne hjk] at hk
      exact Ne.symm (h4 k hk)
    · rw [oc_set_ne z] at hj
      simp only [if_neg (Ne.symm z)]
      by_cases y : g = k
      · subst y; simp only [if_pos]; exact h4 j hj
      · rw [oc_set_ne y] at hk
        simp only [if_neg (Ne.symm y)]
        exact S.ne j k hjk hj hk
  · by_cases z : g = j
    · subst z; simp only [if_pos]
    · rw [List.getElem?_set_ne z] at hj
      simp only [if_neg (Ne.symm z)]
      exact S.par j u hj
  · by_cases z : g = j
    · subst z; rw [hs] at hj; cases hj
    · rw [List.getElem?_set_ne z] at hj
      have h0 := oneSlf_eq hone j c ns fs hj
      subst h0
      obtain ⟨g1, dx, vs, g2, g3, g4⟩ := S.slf 0 c ns fs hj
      refine ⟨?_, dx, vs, ?_, g3, paired_lnk (hfs c ns fs hj) g4⟩
      · simp only [if_neg (Ne.symm z)]; rw [List.getElem?_set_ne z]; exact g1
      · simp only [if_neg (Ne.symm z)]; exact g2
theorem RS.selfPut {c f : Str} {ns : List Str} {fs : List Fv} {dx : Addr} {vs : List V} {y : V} {fv : Fv} (S : RS K cl pa F R H σ ad env) (h0 : env[(0 : Nat)]? = some (some (Sl.slf c ns fs))) (hone : oneSlf env = true) (hσ : σ[(0 : Nat)]? = some (some (V.ref (pa 0))))
    (hR : R (pa 0) = some (.ins (cl c) dx (ns.zip vs))) (hl : ns.length = vs.length) (hp : Paired (FvAt K cl pa F) vs fs) (hf : f ∉ ns) (hy : FvAt K cl pa F y fv) :
    RS K cl pa F (upd R (pa 0) (.ins (cl c) dx (putF f y (ns.zip vs)))) (upd H (pa 0) (.ins (cl c) dx (putF f y (ns.zip vs)))) σ ad (env.set 0 (some (.slf c (ns ++ [f]) (fs ++ [fv])))) := by
  have hi : 0 < env.length := get_lt h0
  have hs : (env.set 0 (some (Sl.slf c (ns ++ [f]) (fs ++ [fv]))))[0]? = some (some (.slf c (ns ++ [f]) (fs ++ [fv]))) := set_get_self h0
  have hoc : ∀ j, ocOf (env.set 0 (some (Sl.slf c (ns ++ [f]) (fs ++ [fv])))) j = ocOf env j := fun j => by
    by_cases z : 0 = j
    · subst z; unfold ocOf; rw [hs, h0]
    · exact oc_set_ne z
  have hFx := S.dj.out hR (fun _ z => nomatch z)
  refine ⟨fun b u e => by rw [upd_ne (fun z => by rw [z, hFx] at e; cases e)]; exact S.fh b u e, S.rh.both, by rw [List.length_set]; exact S.len, fun j d e => ?_, fun j u e => ?_, fun j k hjk hj hk => ?_, fun j u e => ?_, fun b u e => ?_, fun j c' ns' fs' e => ?_⟩
  · by_cases z : 0 = j
    · subst z; rw [hs] at e; cases e
    · rw [List.getElem?_set_ne z] at e; exact S.dat j d e
  · rw [hoc] at e
    obtain ⟨q1, q2, q3, q4⟩ := S.oc j u e
    have hn : ad j ≠ pa 0 := fun z => by rw [z, hR] at q3; cases q3
    exact ⟨q1, q2, by rw [upd_ne hn]; exact q3, q4.mono (Le.refl _) (by rw [upd_ne hn])⟩
  · rw [hoc] at hj hk; exact S.ne j k hjk hj hk
  · by_cases z : 0 = j
    · subst z; rw [hs] at e; cases e
    · rw [List.getElem?_set_ne z] at e; exact S.par j u e
  · by_cases z : b = pa 0
    · subst z; exact .inl hFx
    · rw [upd_ne z] at e; exact S.dj b u e
  · by_cases z : 0 = j
    · subst z
      rw [hs] at e; cases e
      exact ⟨hσ, dx, vs ++ [y], by rw [putF_new hf hl]; exact upd_same, by simp [hl], paired_snoc hy hp⟩
    · rw [List.getElem?_set_ne z] at e
      exact absurd (oneSlf_eq hone j c' ns' fs' e).symm z
end
section
variable (K : PySem.W.Frag) (cl : Str → Addr)
def tZ (f : Fs) : TS := fun E σ H => ∃ pa F R0 R ad env env', Le R0 R ∧ R0 (pa 0) = none ∧ RS K cl pa F R H σ ad env ∧ f env = some (.nx env') ∧
  ∀ (pa' : Nat → Addr) F' R' ad' σ' H', pa' 0 = pa 0 → Le F F' → Le R0 R' → RS K cl pa' F' R' H' σ' ad' env' → E.nx σ' H'
end
section
variable {X : Cx} {cl : Str → Addr} {e : Expr} {pos : Pos} {st : Stmt} {rest : List Stmt}
theorem z_plain {f : Fs} (h : PS X st (tS X.K cl f)) : PS X st (tZ X.K cl f) := PS_weak h fun E σ H q => by
  obtain ⟨pa, F, R0, R, ad, env, env', h1, h2, S, hf, k⟩ := q
  exact ⟨pa, F, R, ad, env, .nx env', S, hf, fun F' ad' σ' H' l S' => k pa F' R ad' σ' H' rfl l h1 S'⟩
theorem zs_nil : PSs X [] (tZ X.K cl doneS) := PSs_weak pss_nil fun E σ H q => by
  obtain ⟨pa, F, R0, R, ad, env, env', h1, h2, S, hf, k⟩ := q
  cases hf
  exact k pa F R ad σ H rfl (Le.refl _) h1 S
theorem zs_cons {f g : Fs} (h : PS X st (tZ X.K cl f)) (h2 : PSs X rest (tZ X.K cl g)) : PSs X (st :: rest) (tZ X.K cl (seqS f g)) := by
  refine PSs_weak (pss_cons h h2) fun E σ H q => ?_
  obtain ⟨pa, F, R0, R, ad, env, env', h1, h2, S, hf, k⟩ := q
  unfold seqS at hf
  obtain ⟨o, h3, hf⟩ := Option.bind_eq_some_iff.mp hf
  cases o with
  | nx e1 => exact ⟨pa, F, R0, R, ad, env, e1, h1, h2, S, h3, fun pa1 F1 R1 ad1 σ1 H1 e0 l r S1 => ⟨pa1, F1, R0, R1, ad1, e1, env', r, by rw [e0]; exact h2, S1, hf, fun pa2 F2 R2 ad2 σ2 H2 e2 l2 r2 S2 => k pa2 F2 R2 ad2 σ2 H2 (e2.trans e0) (l.trans l2) r2 S2⟩⟩
  | bk e1 => cases hf
  | ct e1 => cases hf
  | rt r e1 => cases hf
def slfOf (env : En) : Option (Str × List Str × List Fv) := match env[(0 : Nat)]? with
  | some (some (Sl.slf c ns fs)) => some (c, ns, fs)
  | _ => none
theorem slfOf_eq {env : En} {t : Str × List Str × List Fv} (h : slfOf env = some t) : env[(0 : Nat)]? = some (some (Sl.slf t.1 t.2.1 t.2.2)) := by
  unfold slfOf at h
  split at h
  · cases h; assumption
  · cases h
/-- self.f = e, data -/
def zsetS (c f : Str) (fe : Fe) : Fs := fun env => (fe env).bind fun p => (kp p.2 (fz p.1)).bind fun q => (slfOf q.2).bind fun t =>
  if t.1 = c ∧ f ∉ t.2.1 ∧ oneSlf q.2 = true ∧ t.2.1.length < 1000 then some (.nx (q.2.set 0 (some (.slf c (t.2.1 ++ [f]) (t.2.2 ++ [.dat q.1]))))) else none
theorem z_set (c : Str) {f x : Str} {px pos' : Pos} {fe : Fe} (hC : Cls X.K (cl c)) (hA : NoAttr X.K (cl c) f) (hx : PE X (.Name x px) (tVar 0)) (he : PE X e (tR X.K cl fe))
    (hs : swapsWith e (some (.Attribute (.Name x px) f pos')) pos.line X.env = pure false := by rfl) : PS X (.Assign [.Attribute (.Name x px) f pos'] e pos) (tZ X.K cl (zsetS c f fe)) := by
  refine PS_weak (ps_fld hx he hs) fun E σ H q => ?_
  obtain ⟨pa, F, R0, R, ad, env, env', h1, h2, S, hf, k⟩ := q
  unfold zsetS at hf
  obtain ⟨⟨r1, e1⟩, h3, hf⟩ := Option.bind_eq_some_iff.mp hf
  obtain ⟨⟨d, e2⟩, h4, hf⟩ := Option.bind_eq_some_iff.mp hf
  obtain ⟨⟨c', ns, fs⟩, h5, hf⟩ := Option.bind_eq_some_iff.mp hf
  split at hf
  · rename_i hc
    obtain ⟨hc1, hc2, hc3, hc4⟩ := hc
    cases hf
    dsimp only at hc1 hc2 hc3 hc4
    subst hc1
    refine ⟨pa, F, R, ad, env, r1, e1, S, h3, fun F1 ad1 H1 v l S1 a1 => ?_⟩
    obtain ⟨F2, l2, S2, a2⟩ := S1.fzz a1
    obtain ⟨F3, l3, S3, a3⟩ := S2.keep a2 h4
    have h0 := slfOf_eq h5
    obtain ⟨g1, dx, vs, g2, g3, g4⟩ := S3.slf 0 _ ns fs h0
    refine ⟨.ref (pa 0), g1, pa 0, _, dx, _, rfl, S3.rh _ _ g2, hC, hA, by rw [List.length_zip, ← g3, Nat.min_self]; exact hc4, ?_⟩
    refine k pa F3 _ ad1 _ _ rfl ((l.trans l2).trans l3) ?_ (S3.selfPut h0 hc3 g1 g2 g3 g4 hc2 a3)
    exact fun b u e => by rw [upd_ne (fun z => by rw [z, h2] at e; cases e)]; exact h1 b u e
  · cases hf
/-- self.f = e, e a new list; it is told of by slot g -/
def zlnkS (c f : Str) (g : Nat) (fe : Fe) : Fs := fun env => (fe env).bind fun p => match p.1 with
  | .own o => (slfOf p.2).bind fun t => if t.1 = c ∧ f ∉ t.2.1 ∧ oneSlf p.2 = true ∧ t.2.1.length < 1000 ∧ g ≠ 0 ∧ p.2[g]?.any Option.isNone = true ∧ t.2.2.all (noLnk g) = true then
      some (.nx ((p.2.set g (some (.par o))).set 0 (some (.slf c (t.2.1 ++ [f]) (t.2.2 ++ [.lnk g]))))) else none
  | _ => none
theorem z_lnk (c : Str) (g : Nat) {f x : Str} {px pos' : Pos} {fe : Fe} (hg : ∀ x, X.N[g]? = some x → ¬ Vis X.env.scope x) (hC : Cls X.K (cl c)) (hA : NoAttr X.K (cl c) f) (hx : PE X (.Name x px) (tVar 0)) (he : PE X e (tR X.K cl fe))
    (hs : swapsWith e (some (.Attribute (.Name x px) f pos')) pos.line X.env = pure false := by rfl) : PS X (.Assign [.Attribute (.Name x px) f pos'] e pos) (tZ X.K cl (zlnkS c f g fe)) := by
  refine PS_weak (ps_ghost g hg (ps_fld hx he hs)) fun E σ H q => ?_
  obtain ⟨pa, F, R0, R, ad, env, env', h1, h2, S, hf, k⟩ := q
  unfold zlnkS at hf
  obtain ⟨⟨r1, e2⟩, h3, hf⟩ := Option.bind_eq_some_iff.mp hf
  dsimp only at hf
  split at hf
  · rename_i o
    obtain ⟨⟨c', ns, fs⟩, h5, hf⟩ := Option.bind_eq_some_iff.mp hf
    split at hf
    · rename_i hc
      obtain ⟨hc1, hc2, hc3, hc4, hc5, hc6, hc7⟩ := hc
      cases hf
      dsimp only at hc1 hc2 hc3 hc4 hc7
      subst hc1
      refine ⟨pa, F, R, ad, env, .own o, e2, S, h3, fun F1 ad1 H1 v l S1 a1 => ?_⟩
      obtain ⟨a, rfl, b1, b2, b3, b4⟩ := a1
      have h0 := slfOf_eq h5
      obtain ⟨g1, dx, vs, g2, g3, g4⟩ := S1.slf 0 _ ns fs h0
      refine ⟨.ref (pa 0), g1, pa 0, _, dx, _, rfl, S1.rh _ _ g2, hC, hA, by rw [List.length_zip, ← g3, Nat.min_self]; exact hc4, some (.ref a), ?_⟩
      have hgn : e2[g]? = some none := by
        cases e : e2[g]? with
        | none => rw [e] at hc6; cases hc6
        | some s => cases s with
          | none => rfl
          | some t => rw [e] at hc6; cases hc6
      have SL := S1.link hgn hc3 (fun c'' ns'' fs'' hh => by rw [h0] at hh; cases hh; exact hc7) b1 b2 b3 b4
      have hne : (0 : Nat) ≠ g := Ne.symm hc5
      have h0' : (e2.set g (some (Sl.par o)))[(0 : Nat)]? = some (some (Sl.slf c' ns fs)) := by rw [List.getElem?_set_ne hc5]; exact h0
      have hone' : oneSlf (e2.set g (some (Sl.par o))) = true := by
        cases e2 with
        | nil => cases hc3
        | cons s r =>
          cases g with
          | zero => exact absurd rfl hne
          | succ g =>
            show (r.set g (some (Sl.par o))).all (fun s => !isSlf s) = true
            rw [List.all_eq_true]
            intro z hz
            rcases List.mem_or_eq_of_mem_set hz with hz | rfl
            · exact List.all_eq_true.mp hc3 z hz
            · rfl
      obtain ⟨g1', dx', vs', g2', g3', g4'⟩ := SL.slf 0 _ ns fs h0'
      have ep : (if (0 : Nat) = g then a else pa 0) = pa 0 := if_neg hne
      have SP := SL.selfPut h0' hone' (by exact g1') (dx := dx) (vs := vs) (y := .ref a) (fv := .lnk g) (by show R (if (0 : Nat) = g then a else pa 0) = _; rw [ep]; exact g2) g3 (paired_lnk hc7 g4) hc2 (by show V.ref a = V.ref (if g = g then a else pa g); rw [if_pos rfl])
      simp only [if_neg hne] at SP
      refine k _ F1 _ _ _ _ ?_ l ?_ SP
      · exact if_neg hne
      · exact fun b u e => by rw [upd_ne (fun z => by rw [z, h2] at e; cases e)]; exact h1 b u e
    · cases hf
  · cases hf
/-- self.f.append(e) -/
def selfAppS (c f : Str) (fe : Fe) : Fs := fun env => (selfD c f env).bind fun r => match r with
  | .slot g => (lstOf env g).bind fun _ => (fe env).bind fun p => (kp p.2 (fz p.1)).bind fun q => (lstOf q.2 g).bind fun ds => if ds.length < 16777216 then some (.nx (setOC q.2 g (.lst (ds ++ [q.1])))) else none
  | _ => none
theorem qs_selfApp {c f : Str} {st : Stmt} {fe : Fe} (hC : Cls X.K (cl c)) (hA : NoAttr X.K (cl c) f) (h : PS X st (tDrop (tBM X.K "list" rAppend (tFld X.K (tVar 0) f) (tCons (tR X.K cl fe) tNil)))) : PS X st (tS X.K cl (selfAppS c f fe)) := by
  refine PS_weak h fun E σ H q => ?_
  obtain ⟨pa, F, R, ad, env, out, S, hf, k⟩ := q
  unfold selfAppS at hf
  obtain ⟨r, hr, hf⟩ := Option.bind_eq_some_iff.mp hf
  cases r with
  | slot g =>
    dsimp only at hf
    obtain ⟨dx, ns, vs, v, q1, q2, q3, q4⟩ := selfD_ok S hr
    obtain ⟨ds0, h0, hf⟩ := Option.bind_eq_some_iff.mp hf
    obtain ⟨⟨r1, e1⟩, h1, hf⟩ := Option.bind_eq_some_iff.mp hf
    obtain ⟨⟨d, e2⟩, h2, hf⟩ := Option.bind_eq_some_iff.mp hf
    obtain ⟨ds, h3, hf⟩ := Option.bind_eq_some_iff.mp hf
    split at hf
    · rename_i hl
      cases hf
      obtain ⟨w1, w2, w3, ws0, w4, w5⟩ := S.oc g _ (lstOf_eq h0)
      have ev : v = .ref (ad g) := by
        have : σ[g]? = some (some v) := q4
        rw [this] at w1; cases w1; rfl
      subst ev
      refine ⟨.ref (pa 0), q1, pa 0, _, dx, _, _, rfl, q2, hC, hA, q3, .inl ⟨rfl, ws0, SqL.of w4⟩, pa, F, R, ad, env, r1, e1, S, h1, fun F1 ad1 H1 v l S1 a1 => ?_⟩
      obtain ⟨F2, l2, S2, a2⟩ := S1.fzz a1
      obtain ⟨F3, l3, S3, a3⟩ := S2.keep a2 h2
      obtain ⟨z1, z2, z3, us, z4, z5⟩ := S3.oc g _ (lstOf_eq h3)
      have ea : ad g = ad1 g := by rw [w1] at z1; exact V.ref.inj (Option.some.inj (Option.some.inj z1))
      refine ⟨ad1 g, us, v, by rw [ea], rfl, z4, by rw [z5.length, sizeLine_eq]; exact hl, ?_⟩
      exact k F3 ad1 σ _ ((l.trans l2).trans l3) (S3.write (lstOf_eq h3) ⟨us ++ [v], upd_same, z5.append (.cons a3 .nil)⟩)
    · cases hf
  | dat d => cases hf
  | own o => cases hf
end
/-! ### what __init__ promises -/
def startI (N : List Str) (c : Str) (ds : List Z.D) : En := some (.slf c [] []) :: (ds.map (fun d => some (Sl.dat d)) ++ List.replicate (N.length - (ds.length + 1)) none)
def resF (e : En) : Fv → Option Z.D
  | .dat d => some d
  | .lnk g => match e[g]? with
    | some (some (Sl.par o)) => some o.d
    | _ => none
def resAll (e : En) : List Fv → Option (List Z.D)
  | [] => some []
  | f :: r => (resF e f).bind fun d => (resAll e r).bind fun ds => some (d :: ds)
def finI (c : Str) : Out → Option (List Str × List Z.D)
  | .nx e => (slfOf e).bind fun t => if t.1 = c then (resAll e t.2.2).bind fun ds => some (t.2.1, ds) else none
  | _ => none
def runI (N : List Str) (f : Fs) (c : Str) : List Z.D → Option (List Str × List Z.D) := fun ds => (f (startI N c ds)).bind (finI c)
section
variable {K : PySem.W.Frag} {cl : Str → Addr} {pa : Nat → Addr} {F R H : Hp} {σ : L2.St} {ad : Nat → Addr} {env : En}
/-- all that is told of is frozen -/
noncomputable def frozen (F H : Hp) (x : Addr) (ad : Nat → Addr) (env : En) : Hp := fun a => open Classical in if a = x ∨ ∃ g, (ocOf env g).isSome = true ∧ ad g = a then H a else F a
theorem frozen_le (S : RS K cl pa F R H σ ad env) (hx : F (pa 0) = none) : Le F (frozen F H (pa 0) ad env) := fun a o e => by
  unfold frozen
  split
  · exact S.fh a o e
  · exact e
theorem frozen_H (S : RS K cl pa F R H σ ad env) : Le (frozen F H (pa 0) ad env) H := fun a o e => by
  unfold frozen at e
  split at e
  · exact e
  · exact S.fh a o e
theorem frozen_fv (S : RS K cl pa F R H σ ad env) (hx : F (pa 0) = none) {v : V} {f : Fv} {d : Z.D} (h : FvAt K cl pa F v f) (hr : resF env f = some d) : At K cl (frozen F H (pa 0) ad env) v d := by
  cases f with
  | dat d' => cases hr; exact At.mono (frozen_le S hx) h
  | lnk g =>
    unfold resF at hr
    dsimp only at hr
    split at hr
    · rename_i o hg
      cases hr
      have ea := S.par g o hg
      obtain ⟨q1, q2, q3, q4⟩ := S.oc g o (oc_par hg)
      obtain rfl : v = .ref (pa g) := h
      rw [← ea]
      have hH : frozen F H (pa 0) ad env (ad g) = H (ad g) := by unfold frozen; rw [if_pos (.inr ⟨g, by rw [oc_par hg]; rfl, rfl⟩)]
      cases o with
      | lst ds => obtain ⟨vs, h1, h2⟩ := q4; exact .lst (hH.trans h1) (h2.mono (frozen_le S hx))
      | dct ks ds => obtain ⟨vs, h1, h2, h3⟩ := q4; exact .dt (hH.trans h1) h2 (h3.mono (frozen_le S hx))
    · cases hr
theorem frozen_all (S : RS K cl pa F R H σ ad env) (hx : F (pa 0) = none) : ∀ {vs : List V} {fs : List Fv} {ds : List Z.D}, Paired (FvAt K cl pa F) vs fs → resAll env fs = some ds → AtAll K cl (frozen F H (pa 0) ad env) vs ds
  | _, _, _, .nil, h => by cases h; exact .nil
  | _, f :: r, _, .cons a t, h => by
    unfold resAll at h
    obtain ⟨d, h1, h⟩ := Option.bind_eq_some_iff.mp h
    obtain ⟨ds, h2, h⟩ := Option.bind_eq_some_iff.mp h
    cases h
    exact .cons (frozen_fv S hx a h1) (frozen_all S hx t h2)
end
section
variable {P : Program} {w : World} {K : PySem.W.Frag} {cl : Str → Addr} {mg : Str → Option Value} {base : Heap}
theorem finI_eq {c : Str} {o : Out} {r : List Str × List Z.D} (h : finI c o = some r) : ∃ e ns fs es, o = .nx e ∧ slfOf e = some (c, ns, fs) ∧ resAll e fs = some es ∧ r = (ns, es) := by
  cases o with
  | nx e =>
    change ((slfOf e).bind fun t => if t.1 = c then (resAll e t.2.2).bind fun ds => some (t.2.1, ds) else none) = some r at h
    obtain ⟨⟨c', ns, fs⟩, h5, h⟩ := Option.bind_eq_some_iff.mp h
    dsimp only at h
    by_cases hc : c' = c
    · rw [if_pos hc] at h
      obtain ⟨es, h6, h7⟩ := Option.bind_eq_some_iff.mp h
      subst hc
      exact ⟨e, ns, fs, es, rfl, h5, h6, (Option.some.inj h7).symm⟩
    · rw [if_neg hc] at h; cases h
  | bk e => cases h
  | ct e => cases h
  | rt r e => cases h
theorem okI {x qual : Str} {st : Stmt} {f : Addr} {fd : FuncData} {N ps : List Str} {k : Nat} (c : Str) (body : Fs) (Fn : Fun K x qual st f fd) (S : FnScope N ps (defScope st)) (hN : ps.length ≤ N.length)
    (hd : ∀ (cdv : Value) (A : Around) (outer : List Env) (s : Shared) (H : Hp) (E : XK), Room k (A.deeper (envOfC qual (defScope st) s.heap.objs.size f cdv)) → PSs (cxOf CX0 P w K mg base N qual (defScope st) f cdv A outer s H E).nox (defBody st) (tZ K cl body)) :
    FnOk P w K mg base CX0 (k + 1) f fd ps (spI K cl c ps.length (runI N body c)) := by
  refine Fn.ok S (fun vs H Q E h => h.1) (fun cdv A outer s H vs Q E hr h => ⟨_, hd cdv A outer s H E hr, ?_⟩)
  obtain ⟨hl, F, R, p, dx, ws, ds, r, rfl, hm, h1, h2, h3, hx, hdx, hF, hR, hF2, hR2, hne, a, q⟩ := h
  unfold runI at hm
  obtain ⟨o, ho, hm⟩ := Option.bind_eq_some_iff.mp hm
  have hdl : ds.length + 1 ≤ N.length := by rw [← a.length]; simp only [List.length_cons] at hl; omega
  obtain ⟨N', n0, hNe⟩ : ∃ N' n0, N = n0 :: N' := by
    cases N with
    | nil => simp at hdl
    | cons n0 N' => exact ⟨N', n0, rfl⟩
  have e1 : startI N c ds = some (.slf c [] []) :: startE N' ds := by unfold startI startE; rw [hNe]; simp
  have e2 : L2.start N (.ref p :: ws) = some (.ref p) :: L2.start N' ws := by unfold L2.start; rw [hNe]; simp
  have hd' : ds.length ≤ N'.length := by rw [hNe] at hdl; simpa using hdl
  let R1 : Hp := upd R p (.ins (cl c) dx [])
  have hR1 : Le R R1 := Le.put hR
  have hR1H : Le R1 H := h2.into hx
  have hdj1 : Dj R1 F := fun b u e => by
    by_cases z : b = p
    · subst z; exact .inl hF
    · change upd R p _ b = _ at e; rw [upd_ne z] at e; exact h3 b u e
  have S0 := RS.begin (K := K) (cl := cl) (N := N') a hd' h1 hR1H hdj1
  have hocs : ∀ i, ocOf (startE N' ds) i = none := fun i => by
    cases e : ocOf (startE N' ds) i with
    | none => rfl
    | some u =>
      unfold ocOf at e
      split at e
      · rename_i y; obtain ⟨d, v, z, _⟩ := startE_get a hd' i _ y; cases z
      · rename_i y; obtain ⟨d, v, z, _⟩ := startE_get a hd' i _ y; cases z
      · cases e
  have hoc1 : ∀ i, ocOf (startI N c ds) i = none := fun i => by
    rw [e1]
    cases i with
    | zero => rfl
    | succ i => exact hocs i
  have SM : RS K cl (fun _ => p) F R1 H (L2.start N (.ref p :: ws)) (fun _ => p) (startI N c ds) := by
    refine ⟨h1, hR1H, by rw [e1, e2, List.length_cons, List.length_cons, S0.len], fun i d e => ?_, fun i o e => ?_, fun i j hij hi hj => ?_, fun i o e => rfl, hdj1, fun i c' ns fs e => ?_⟩
    · rw [e1] at e
      cases i with
      | zero => cases e
      | succ i => rw [e2]; exact S0.dat i d e
    · rw [hoc1] at e; cases e
    · rw [hoc1] at hi; cases hi
    · rw [e1] at e
      cases i with
      | zero => cases e; rw [e2]; exact ⟨rfl, dx, [], upd_same, rfl, .nil⟩
      | succ i => obtain ⟨d', v, z, _⟩ := startE_get a hd' i _ e; cases z
  obtain ⟨e', ns, fs, es, rfl, h5, h6, rfl⟩ := finI_eq hm
  refine ⟨fun _ => p, F, R, R1, fun _ => p, _, e', hR1, hR, SM, ho, fun pa' F' R' ad' σ' H' e0 l r S' => ?_⟩
  obtain ⟨g1, dx', vs, g2, g3, g4⟩ := S'.slf 0 _ ns fs (slfOf_eq h5)
  have hFx := S'.dj.out g2 (fun _ z => nomatch z)
  have hH := S'.rh _ _ g2
  refine q (frozen F' H' (pa' 0) ad' e') H' (l.trans (frozen_le S' hFx)) (frozen_H S') (r.trans S'.rh) (fun b u e => ?_) ?_
  · unfold frozen
    rw [if_neg]
    · exact S'.dj b u (r b u e)
    · rintro (z | ⟨g, z1, z2⟩)
      · rw [z, e0, hR] at e; cases e
      · cases e3 : ocOf e' g with
        | none => rw [e3] at z1; cases z1
        | some t =>
          obtain ⟨_, _, y3, _⟩ := S'.oc g t e3
          rw [z2, r b u e] at y3; cases y3
  · have := frozen_all S' hFx g4 h6
    refine At.obj (dx := dx') (vs := vs) ?_ g3 this
    have e3 : pa' 0 = p := e0
    have e4 : frozen F' H' (pa' 0) ad' e' (pa' 0) = H' (pa' 0) := by unfold frozen; rw [if_pos (.inl rfl)]
    rw [hH, e3] at e4
    rw [e3]
    exact e4
end
end Z

set_option Elab.async false
set_option linter.all false
set_option maxRecDepth 100000
set_option maxHeartbeats 1000000
/-! Defs of the text and what they promise, bundled. -/
namespace Z
open PySem PySem.Spec PyProof.Rows L2
/-- a def of the top -/
structure FunG (K : PySem.W.Frag) (mg : Str → Option Value) (x : Str) (st : Stmt) : Prop where
  ex : ∃ a fd, Fun K x x st a fd ∧ mg x = some (.ref a)
/-- a method -/
structure MthG (K : PySem.W.Frag) (C : Addr) (x qual : Str) (st : Stmt) : Prop where
  ex : ∃ a fd, Fun K x qual st a fd ∧ Meth K C x a
/-- a class with its __init__ -/
structure MakG (K : PySem.W.Frag) (mg : Str → Option Value) (C : Addr) (c : Str) (qual : Str) (st : Stmt) : Prop where
  ex : ∃ a fd, Fun K "__init__" qual st a fd ∧ Mk K C a ∧ mg c = some (.ref C)
structure Cal (P : Program) (w : World) (K : PySem.W.Frag) (mg : Str → Option Value) (base : Heap) (x : Str) (k : Nat) (ps : List Str) (sp : Sp) : Prop where
  ex : ∃ a fd, FnOk P w K mg base CX0 k a fd ps sp ∧ Binds K fd ps [] ∧ mg x = some (.ref a) ∧ PySem.W.keepIn K (.ref a) = true
structure CalM (P : Program) (w : World) (K : PySem.W.Frag) (mg : Str → Option Value) (base : Heap) (C : Addr) (x : Str) (k : Nat) (ps : List Str) (sp : Sp) : Prop where
  ex : ∃ a fd, FnOk P w K mg base CX0 k a fd ps sp ∧ Binds K fd ps [] ∧ Meth K C x a
structure CalI (P : Program) (w : World) (K : PySem.W.Frag) (mg : Str → Option Value) (base : Heap) (C : Addr) (c : Str) (k : Nat) (ps : List Str) (sp : Sp) : Prop where
  ex : ∃ a fd, FnOk P w K mg base CX0 k a fd ps sp ∧ Binds K fd ps [] ∧ Mk K C a ∧ mg c = some (.ref C)
section
variable {X : Cx} {cl : Str → Addr} {e o : Expr} {es : List Expr} {p pos apos : Pos} {x : Str} {k n : Nat} {ps : List Str}
theorem pr_callC {m : List Z.D → Option Rt} {fs : Fa} (C : Cal X.prog X.w X.K X.mg X.base x k ps (spP X.K cl n m)) (hr : Room k X.A) (ha : PA X (e :: es) (tL X.K cl fs)) (hlen : ∀ (env : En) (rvs : List Rv) (env' : En), fs env = some (rvs, env') → rvs.length = n) (hg : Gl X x := by rfl)
    (hdb : (x == ("__debug__" : Str)) = false := by decide) (he : starEach (e :: es) X.env = (false, eval e X.env) :: starEach es X.env := by rfl) (hpl : (backTo pos (starEach es X.env)).any (·.1) = false := by rfl) :
    PE X (.Call (.Name x p) (e :: es) [] pos) (tR X.K cl (callP m fs)) := by
  obtain ⟨a, fd, G, b, gm, kp⟩ := C.ex
  exact pr_call (pe_call G hr hg gm kp b .nil pass0 ha hdb he hpl) hlen
theorem pr_callMC {m : OC → List Z.D → Option (Rt × OC)} {fs : Fa} (i : Nat) (C : Cal X.prog X.w X.K X.mg X.base x k ps (spM X.K cl n m)) (hr : Room k X.A) (ha : PA X (e :: es) (tL X.K cl fs)) (hlen : ∀ (env : En) (rvs : List Rv) (env' : En), fs env = some (rvs, env') → rvs.length = n) (hg : Gl X x := by rfl)
    (hdb : (x == ("__debug__" : Str)) = false := by decide) (he : starEach (e :: es) X.env = (false, eval e X.env) :: starEach es X.env := by rfl) (hpl : (backTo pos (starEach es X.env)).any (·.1) = false := by rfl) :
    PE X (.Call (.Name x p) (e :: es) [] pos) (tR X.K cl (callM m i fs)) := by
  obtain ⟨a, fd, G, b, gm, kp⟩ := C.ex
  exact pr_callM i (pe_call G hr hg gm kp b .nil pass0 ha hdb he hpl) hlen
theorem pr_methC {c mn : Str} {m : List Z.D → Option Rt} {fo : Fe} {fs : Fa} {pl : Sem Bool} (C : CalM X.prog X.w X.K X.mg X.base (cl c) mn k ps (spP X.K cl n m)) (hc : Cls X.K (cl c)) (hr : Room k X.A) (ho : PE X o (tR X.K cl fo)) (ha : PA X (e :: es) (tL X.K cl fs))
    (hlen : ∀ (env : En) (rvs : List Rv) (env' : En), fs env = some (rvs, env') → rvs.length + 1 = n)
    (hst : starEach (e :: es) X.env = (false, eval e X.env) :: starEach es X.env := by rfl) (hpl : (backTo pos (starEach es X.env)).any (·.1) = false := by rfl)
    (ht : eval (.Call (.Attribute o mn apos) (e :: es) [] pos) X.env = (do
      let ov ← eval o X.env
      standAt apos.atName
      let (f, first) ← holding [ov] (getMethod ov mn pl)
      callWith pos f first (backTo pos (starEach (e :: es) X.env)) (backToKw pos (keywordEach [] X.env))) := by rfl) :
    PE X (.Call (.Attribute o mn apos) (e :: es) [] pos) (tR X.K cl (methS c mn m fo fs)) := by
  obtain ⟨a, fd, G, b, hm⟩ := C.ex
  exact pr_meth (pe_meth ho hc hm G hr b .nil pass0 ha hst hpl ht) (fun _ _ _ q => q) hlen
theorem pr_makeC {c : Str} {m : List Z.D → Option (List Str × List Z.D)} {fs : Fa} (C : CalI X.prog X.w X.K X.mg X.base (cl c) c k ps (spI X.K cl c n m)) (hr : Room (k + 1) X.A) (ha : PA X (e :: es) (tL X.K cl fs))
    (hlen : ∀ (env : En) (rvs : List Rv) (env' : En), fs env = some (rvs, env') → rvs.length + 1 = n) (hg : Gl X c := by rfl) (hdb : (c == ("__debug__" : Str)) = false := by decide) (he : starEach (e :: es) X.env = (false, eval e X.env) :: starEach es X.env := by rfl)
    (hpl : (backTo pos (starEach es X.env)).any (·.1) = false := by rfl) : PE X (.Call (.Name c p) (e :: es) [] pos) (tR X.K cl (makS c m fs)) := by
  obtain ⟨a, fd, G, b, M, gm⟩ := C.ex
  exact pr_make (pe_make M G hr hg gm b .nil pass0 ha hdb he hpl) hlen
end
section
variable {P : Program} {w : World} {K : PySem.W.Frag} {cl : Str → Addr} {mg : Str → Option Value} {base : Heap} {x qual : Str} {st : Stmt} {N ps : List Str} {C : Addr}
abbrev BindsOf (x qual : Str) (st : Stmt) (ps : List Str) : Prop := ∀ (kV doc pm : Value) (an : Option Addr) (cdv ct : Value) (us : List Value), us.length = ps.length → bindArgs (PySem.W.fnOf x qual (defArgs st) (defBody st) (defScope st) .none kV doc pm an cdv ct) ⟨us, []⟩ = pure (ps.zip us)
theorem cal_P (k : Nat) {body : Fs} (F : FunG K mg x st) (S : FnScope N ps (defScope st)) (hN : ps.length ≤ N.length) (hb : BindsOf x x st ps)
    (hd : ∀ (f : Addr) (cdv : Value) (A : Around) (outer : List Env) (s : Shared) (H : Hp) (E : XK), Room k (A.deeper (envOfC x (defScope st) s.heap.objs.size f cdv)) → PSs (cxOf CX0 P w K mg base N x (defScope st) f cdv A outer s H E).nox (defBody st) (tS K cl body)) :
    Cal P w K mg base x (k + 1) ps (spP K cl ps.length (runP N body)) := by
  obtain ⟨a, fd, Fn, gm⟩ := F.ex
  exact ⟨a, fd, okP body Fn S hN (hd a), Fn.binds hb, gm, Fn.kp⟩
theorem cal_M (k : Nat) {body : Fs} (F : FunG K mg x st) (S : FnScope N ps (defScope st)) (hN : ps.length ≤ N.length) (hb : BindsOf x x st ps)
    (hd : ∀ (f : Addr) (cdv : Value) (A : Around) (outer : List Env) (s : Shared) (H : Hp) (E : XK), Room k (A.deeper (envOfC x (defScope st) s.heap.objs.size f cdv)) → PSs (cxOf CX0 P w K mg base N x (defScope st) f cdv A outer s H E).nox (defBody st) (tS K cl body)) :
    Cal P w K mg base x (k + 1) ps (spM K cl ps.length (runM N body)) := by
  obtain ⟨a, fd, Fn, gm⟩ := F.ex
  exact ⟨a, fd, okM body Fn S hN (hd a), Fn.binds hb, gm, Fn.kp⟩
theorem calm_P (k : Nat) {body : Fs} (F : MthG K C x qual st) (S : FnScope N ps (defScope st)) (hN : ps.length ≤ N.length) (hb : BindsOf x qual st ps)
    (hd : ∀ (f : Addr) (cdv : Value) (A : Around) (outer : List Env) (s : Shared) (H : Hp) (E : XK), Room k (A.deeper (envOfC qual (defScope st) s.heap.objs.size f cdv)) → PSs (cxOf CX0 P w K mg base N qual (defScope st) f cdv A outer s H E).nox (defBody st) (tS K cl body)) :
    CalM P w K mg base C x (k + 1) ps (spP K cl ps.length (runP N body)) := by
  obtain ⟨a, fd, Fn, hm⟩ := F.ex
  exact ⟨a, fd, okP body Fn S hN (hd a), Fn.binds hb, hm⟩
theorem cal_I (k : Nat) {c : Str} {body : Fs} (F : MakG K mg C c qual st) (S : FnScope N ps (defScope st)) (hN : ps.length ≤ N.length) (hb : BindsOf "__init__" qual st ps)
    (hd : ∀ (f : Addr) (cdv : Value) (A : Around) (outer : List Env) (s : Shared) (H : Hp) (E : XK), Room k (A.deeper (envOfC qual (defScope st) s.heap.objs.size f cdv)) → PSs (cxOf CX0 P w K mg base N qual (defScope st) f cdv A outer s H E).nox (defBody st) (tZ K cl body)) :
    CalI P w K mg base C c (k + 1) ps (spI K cl c ps.length (runI N body c)) := by
  obtain ⟨a, fd, Fn, M, gm⟩ := F.ex
  exact ⟨a, fd, okI c body Fn S hN (hd a), Fn.binds hb, M, gm⟩
theorem cal_0P {n : Nat} (F : FunG K mg x st) (hb : BindsOf x x st ps) : Cal P w K mg base x 0 ps (spP K cl n fun _ => none) := by
  obtain ⟨a, fd, Fn, gm⟩ := F.ex
  exact ⟨a, fd, ⟨fun vs H Q E ⟨_, _, _, _, _, z, _⟩ => (by cases z), fun A outer s H args us vs Q E _ _ _ _ ⟨_, _, _, _, _, z, _⟩ => (by cases z)⟩, Fn.binds hb, gm, Fn.kp⟩
theorem cal_0M {n : Nat} (F : FunG K mg x st) (hb : BindsOf x x st ps) : Cal P w K mg base x 0 ps (spM K cl n fun _ _ => none) := by
  obtain ⟨a, fd, Fn, gm⟩ := F.ex
  exact ⟨a, fd, ⟨fun vs H Q E ⟨_, _, _, _, _, _, _, _, _, z, _⟩ => (by cases z), fun A outer s H args us vs Q E _ _ _ _ ⟨_, _, _, _, _, _, _, _, _, z, _⟩ => (by cases z)⟩, Fn.binds hb, gm, Fn.kp⟩
theorem Cal.mono {j k : Nat} {sp : Sp} (C : Cal P w K mg base x j ps sp) (h : j ≤ k) : Cal P w K mg base x k ps sp := by
  obtain ⟨a, fd, G, r⟩ := C.ex
  exact ⟨a, fd, G.mono h, r⟩
end
end Z
namespace Z
open PySem PySem.Spec PyProof.Rows L2
theorem hu_room {k : Nat} {A : Around} (hr : Room k A) : A.units + 64 < cLine := by have := hr.un; omega
end Z

set_option Elab.async false
set_option linter.all false
set_option maxRecDepth 100000
set_option maxHeartbeats 1000000
/-! < of tuples of ints; reckoning with meanings. -/
namespace Z
open PySem PySem.Spec PyProof.Rows L2
section
variable {X : Cx} {K : PySem.W.Frag} {cl : Str → Addr}
def lt2G : Z.D → Z.D → Option Bool
  | .int i, .int j => some (decide (i < j))
  | .tup a, .tup b => (intsOf a).bind fun ns => (intsOf b).bind fun ms => some (HT.lexLt ns ms)
  | _, _ => none
def rLt2 (K : PySem.W.Frag) : R2 := fun x y H Q => rI0 (fun i j => .bl (decide (i < j))) x y H Q ∨ rLtT K x y H Q
theorem op_lt2 (hu : X.A.units + 64 < cLine) : OpR X (compareOp .Lt) (rLt2 X.K) := OpR_or op_lt (op_ltT (by omega))
theorem lt2_ok : Op2 K cl (bRes lt2G) (rLt2 K) := by
  intro F H x y d e rv Q le hx hy hg res
  obtain ⟨b, h1, hg⟩ := Option.bind_eq_some_iff.mp hg
  cases hg
  unfold lt2G at h1
  split at h1
  · cases h1; rw [at_int hx, at_int hy]; exact .inl ⟨_, _, rfl, rfl, res.dat0 (.bl _)⟩
  · obtain ⟨ns, h2, h1⟩ := Option.bind_eq_some_iff.mp h1
    obtain ⟨ms, h3, h1⟩ := Option.bind_eq_some_iff.mp h1
    cases h1
    rw [intsOf_eq h2] at hx
    rw [intsOf_eq h3] at hy
    obtain ⟨p, vs, rfl, e1, a1⟩ := at_tup hx
    obtain ⟨q, ws, rfl, e2, a2⟩ := at_tup hy
    rw [a1.intsV] at e1
    rw [a2.intsV] at e2
    exact .inr ⟨p, q, ns, ms, rfl, rfl, SqT.of (le _ _ e1), SqT.of (le _ _ e2), res.dat0 (.bl _)⟩
  · cases h1
end
/-! ### the meanings as rewriting rules -/
section
variable {env : En} {fa fb fc f : Fe} {g g' : Z.D → Z.D → Option Rv} {c c' : Z.D → Z.D → Option Bool} {t t' : Ft} {fs : Fa} {d e : Z.D} {ds es : List Z.D} {i j : Int} {k n : Nat} {rs : List Rv} {r : Rv} {b b' : Bool} {s s' : Fs} {o : OC} {gl : List Z.D → Option Rv} {gb : Fb} {gbs : Fbs} {vs : List Nat}
@[simp] theorem s_dlst : (OC.lst ds).d = .lst ds := rfl
@[simp] theorem s_fzo : fz (.own o) = .dat o.d := rfl
@[simp] theorem s_fzd : fz (.dat d) = .dat d := rfl
@[simp] theorem s_fzs : fz (.slot k) = .slot k := rfl
@[simp] theorem s_rvd : Rt.rv (.dat d) = .dat d := rfl
@[simp] theorem s_rvo : Rt.rv (.own o) = .own o := rfl
@[simp] theorem s_rdd : rd env (.dat d) = some d := rfl
@[simp] theorem s_rdo : rd env (.own o) = some o.d := rfl
@[simp] theorem s_rds : rd env (.slot k) = (match env[k]? with | some (some (.dat d)) => some d | some (some (.own o)) => some o.d | some (some (.par o)) => some o.d | _ => none) := rfl
@[simp] theorem s_kpd : kp env (.dat d) = some (d, env) := rfl
@[simp] theorem s_kpo : kp env (.own o) = some (o.d, env) := rfl
@[simp] theorem s_kps : kp env (.slot k) = (match env[k]? with | some (some (.dat d)) => some (d, env) | some (some (.own o)) => some (o.d, env.set k (some (.dat o.d))) | _ => none) := rfl
@[simp] theorem s_vS : vS k env = (match env[k]? with | some (some _) => some (.slot k, env) | _ => none) := rfl
@[simp] theorem s_cS : cS d env = some (.dat d, env) := rfl
@[simp] theorem s_bin2 : bin2 g fa fb env = ((fa env).bind fun p => (fb p.2).bind fun q => (rd q.2 (fz p.1)).bind fun d => (rd q.2 (fz q.1)).bind fun e => (g d e).bind fun r => some (r, q.2)) := rfl
@[simp] theorem s_cmpT : cmpT c fa fb env = ((fa env).bind fun p => (fb p.2).bind fun q => (rd q.2 (fz p.1)).bind fun d => (rd q.2 (fz q.1)).bind fun e => (c d e).bind fun r => some (r, q.2)) := rfl
@[simp] theorem s_bRes : bRes c d e = ((c d e).bind fun b => some (.dat (.bl b))) := rfl
@[simp] theorem s_chn : chn c c' fa fb fc env = ((fa env).bind fun p => (fb p.2).bind fun q => (rd q.2 (fz p.1)).bind fun d => (rd q.2 (fz q.1)).bind fun e => (c d e).bind fun r =>
    if r = true then (fc q.2).bind fun s => (rd s.2 (fz q.1)).bind fun e' => (rd s.2 (fz s.1)).bind fun h => (c' e' h).bind fun r' => some (r', s.2) else some (false, q.2)) := rfl
@[simp] theorem s_tV : tV t env = ((t env).bind fun p => some (.dat (.bl p.1), p.2)) := rfl
@[simp] theorem s_truS : truS f env = ((f env).bind fun p => (rd p.2 (fz p.1)).bind fun d => (truD d).bind fun b => some (b, p.2)) := rfl
@[simp] theorem s_notT : notT t env = ((t env).bind fun p => some (!p.1, p.2)) := rfl
@[simp] theorem s_andT : andT t t' env = ((t env).bind fun p => if p.1 = true then t' p.2 else some (false, p.2)) := rfl
@[simp] theorem s_orT : orT t t' env = ((t env).bind fun p => if p.1 = true then some (true, p.2) else t' p.2) := rfl
@[simp] theorem s_andS : andS fa fb env = ((fa env).bind fun p => (rd p.2 (fz p.1)).bind fun d => (truD d).bind fun b => if b = true then fb p.2 else some (fz p.1, p.2)) := rfl
@[simp] theorem s_orS : orS fa fb env = ((fa env).bind fun p => (rd p.2 (fz p.1)).bind fun d => (truD d).bind fun b => if b = true then some (fz p.1, p.2) else fb p.2) := rfl
@[simp] theorem s_notS : notS f env = ((f env).bind fun p => (rd p.2 (fz p.1)).bind fun d => (truD d).bind fun b => some (.dat (.bl (!b)), p.2)) := by
  unfold notS tV notT truS
  cases f env with
  | none => rfl
  | some p =>
    show Option.bind (Option.bind (Option.bind (rd p.2 (fz p.1)) _) _) _ = Option.bind (rd p.2 (fz p.1)) _
    cases rd p.2 (fz p.1) with
    | none => rfl
    | some d =>
      show Option.bind (Option.bind (Option.bind (truD d) _) _) _ = Option.bind (truD d) _
      cases truD d <;> rfl
@[simp] theorem s_ifS : ifS t fa fb env = ((t env).bind fun p => if p.1 = true then fa p.2 else fb p.2) := rfl
@[simp] theorem s_nilL : nilL env = some ([], env) := rfl
@[simp] theorem s_consL : consL f fs env = ((f env).bind fun p => (fs p.2).bind fun q => some (fz p.1 :: q.1, q.2)) := rfl
@[simp] theorem s_kpLn : kpL env [] = some ([], env) := rfl
@[simp] theorem s_kpLc : kpL env (r :: rs) = ((kp env r).bind fun p => (kpL p.2 rs).bind fun q => some (p.1 :: q.1, q.2)) := rfl
@[simp] theorem s_rdLn : rdL env [] = some [] := rfl
@[simp] theorem s_rdLc : rdL env (r :: rs) = ((rd env r).bind fun d => (rdL env rs).bind fun ds => some (d :: ds)) := rfl
@[simp] theorem s_tupS : tupS fs env = ((fs env).bind fun p => (kpL p.2 p.1).bind fun q => some (.dat (.tup q.1), q.2)) := rfl
@[simp] theorem s_lstS : lstS fs env = ((fs env).bind fun p => (kpL p.2 p.1).bind fun q => some (.own (.lst q.1), q.2)) := rfl
@[simp] theorem s_cbS : cbS gl fs env = ((fs env).bind fun p => (rdL p.2 p.1).bind fun ds => (gl ds).bind fun r => some (r, p.2)) := rfl
@[simp] theorem s_isS : isS b f env = ((f env).bind fun p => (rd p.2 (fz p.1)).bind fun d => some (isN d != b, p.2)) := rfl
@[simp] theorem s_un1 {g : Z.D → Option Rv} : un1 g f env = ((f env).bind fun p => (rd p.2 (fz p.1)).bind fun d => (g d).bind fun r => some (r, p.2)) := rfl
@[simp] theorem s_noO : noO env = some (none, env) := rfl
@[simp] theorem s_soO : soO f env = ((f env).bind fun p => (rd p.2 (fz p.1)).bind fun d => (intOf d).bind fun i => some (some i, p.2)) := rfl
@[simp] theorem s_intOf : intOf (.int i) = some i := rfl
@[simp] theorem s_slS {fl fh : Fo} : slS fa fl fh env = ((fa env).bind fun p => (fl p.2).bind fun q => (fh q.2).bind fun r => (rd r.2 (fz p.1)).bind fun d => (cutG d q.1 r.1).bind fun z => some (z, r.2)) := rfl
@[simp] theorem s_cutL {lo hi : Option Int} : cutG (.lst ds) lo hi = some (.own (.lst (cutD ds lo hi))) := rfl
@[simp] theorem s_cutT {lo hi : Option Int} : cutG (.tup ds) lo hi = some (.dat (.tup (cutD ds lo hi))) := rfl
@[simp] theorem s_callP {m : List Z.D → Option Rt} : callP m fs env = ((fs env).bind fun p => (kpL p.2 p.1).bind fun q => (m q.1).bind fun r => some (r.rv, q.2)) := rfl
@[simp] theorem s_callM {m : OC → List Z.D → Option (Rt × OC)} : callM m k fs env = ((fs env).bind fun p => match p.1 with
  | .slot j :: rest => if j = k then (kpL p.2 rest).bind fun q => (ocOf q.2 k).bind fun o => (m o q.1).bind fun r => some (r.1.rv, setOC q.2 k r.2) else none
  | _ => none) := rfl
@[simp] theorem s_ocOf : ocOf env k = (match env[k]? with | some (some (.own o)) => some o | some (some (.par o)) => some o | _ => none) := rfl
@[simp] theorem s_setOC : setOC env k o = (match env[k]? with | some (some (.par _)) => env.set k (some (.par o)) | _ => env.set k (some (.own o))) := rfl
@[simp] theorem s_lstOf : lstOf env k = (match ocOf env k with | some (.lst ds) => some ds | _ => none) := rfl
@[simp] theorem s_fldS {c x : Str} : fldS c x f env = ((f env).bind fun p => (rd p.2 (fz p.1)).bind fun d => (fldD c x d).bind fun d' => some (.dat d', p.2)) := rfl
@[simp] theorem s_fldD {c x c' : Str} {ns : List Str} : fldD c x (.obj c' ns ds) = if c' = c then (ns.zip ds).lookup x else none := rfl
@[simp] theorem s_methS {c x : Str} {m : List Z.D → Option Rt} : methS c x m f fs env = ((f env).bind fun p => (kp p.2 (fz p.1)).bind fun k => if methD c x k.1 = true then (fs k.2).bind fun q => (kpL q.2 q.1).bind fun s => (m (k.1 :: s.1)).bind fun r => some (r.rv, s.2) else none) := rfl
@[simp] theorem s_methD {c x c' : Str} {ns : List Str} : methD c x (.obj c' ns ds) = (decide (c' = c) && decide (x ∉ ns)) := rfl
@[simp] theorem s_makS {c : Str} {m : List Z.D → Option (List Str × List Z.D)} : makS c m fs env = ((fs env).bind fun p => (kpL p.2 p.1).bind fun q => (m q.1).bind fun r => some (.dat (.obj c r.1 r.2), q.2)) := rfl
-- operations
@[simp] theorem s_add : addG (.int i) (.int j) = some (.dat (.int (i + j))) := rfl
@[simp] theorem s_addT : addG (.tup ds) (.tup es) = if ds.length + es.length ≤ 16777216 then some (.dat (.tup (ds ++ es))) else none := rfl
@[simp] theorem s_addL : addG (.lst ds) (.lst es) = if ds.length + es.length ≤ 16777216 then some (.own (.lst (ds ++ es))) else none := rfl
@[simp] theorem s_sub : subG (.int i) (.int j) = some (.dat (.int (i - j))) := rfl
@[simp] theorem s_mul : mulG (.int i) (.int j) = if okMul i j = true then some (.dat (.int (i * j))) else none := rfl
@[simp] theorem s_mulL : mulG (.lst ds) (.int i) = if i.natAbs < 2 ^ 62 ∧ ds.length * i.toNat ≤ 16777216 then some (.own (.lst (List.replicate i.toNat ds).flatten)) else none := rfl
@[simp] theorem s_div : divG (.int i) (.int j) = if okDiv j = true then some (.dat (.int (i / j))) else none := rfl
@[simp] theorem s_mod : modG (.int i) (.int j) = if 0 < j then some (.dat (.int (i % j))) else none := rfl
@[simp] theorem s_neg : negG (.int i) = some (.dat (.int (-i))) := rfl
@[simp] theorem s_lt : ltG (.int i) (.int j) = some (decide (i < j)) := rfl
@[simp] theorem s_lt2 : lt2G (.int i) (.int j) = some (decide (i < j)) := rfl
@[simp] theorem s_lt2t : lt2G (.tup ds) (.tup es) = ((intsOf ds).bind fun ns => (intsOf es).bind fun ms => some (HT.lexLt ns ms)) := rfl
@[simp] theorem s_le : leG (.int i) (.int j) = some (decide (i ≤ j)) := rfl
@[simp] theorem s_gt : gtG (.int i) (.int j) = some (decide (j < i)) := rfl
@[simp] theorem s_ge : geG (.int i) (.int j) = some (decide (j ≤ i)) := rfl
@[simp] theorem s_eqi : eqG (.int i) (.int j) = some (decide (i = j)) := rfl
@[simp] theorem s_eqb : eqG (.bl b) (.bl b') = some (decide (b = b')) := rfl
@[simp] theorem s_eqni : eqG .non (.int j) = some false := rfl
@[simp] theorem s_eqin : eqG (.int j) .non = some false := rfl
@[simp] theorem s_ne : neG d e = (eqG d e).bind fun b => some (!b) := rfl
@[simp] theorem s_isn : isN .non = true := rfl
@[simp] theorem s_isi : isN (.int i) = false := rfl
@[simp] theorem s_ist : isN (.tup ds) = false := rfl
@[simp] theorem s_isl : isN (.lst ds) = false := rfl
@[simp] theorem s_isb : isN (.bl b) = false := rfl
@[simp] theorem s_ixL : ixG (.lst ds) (.int i) = (atI ds i).bind fun d => some (.dat d) := rfl
@[simp] theorem s_ixT : ixG (.tup ds) (.int i) = (atI ds i).bind fun d => some (.dat d) := rfl
@[simp] theorem s_lenL : lenG [.lst ds] = some (.dat (.int ds.length)) := rfl
@[simp] theorem s_lenT : lenG [.tup ds] = some (.dat (.int ds.length)) := rfl
@[simp] theorem s_int1 : intG [.int i] = some (.dat (.int i)) := rfl
@[simp] theorem s_abs1 : absG [.int i] = some (.dat (.int (if i < 0 then -i else i))) := rfl
@[simp] theorem s_tupL : tupleG [.lst ds] = some (.dat (.tup ds)) := rfl
@[simp] theorem s_tupT : tupleG [.tup ds] = some (.dat (.tup ds)) := rfl
@[simp] theorem s_lstL : listG [.lst ds] = some (.own (.lst ds)) := rfl
@[simp] theorem s_lstT : listG [.tup ds] = some (.own (.lst ds)) := rfl
@[simp] theorem s_all : allG [.lst ds] = (blsOf ds).bind fun bs => some (.dat (.bl (bs.all id))) := rfl
@[simp] theorem s_any : anyG [.lst ds] = (blsOf ds).bind fun bs => some (.dat (.bl (bs.any id))) := rfl
@[simp] theorem s_gcd : gcdG [.int i, .int j] = some (.dat (.int ((Nat.gcd i.natAbs j.natAbs : Nat) : Int))) := rfl
@[simp] theorem s_lcm : lcmG [.int i, .int j] = if i.natAbs < Big ∧ j.natAbs < Big then some (.dat (.int ((Nat.lcm i.natAbs j.natAbs : Nat) : Int))) else none := rfl
@[simp] theorem s_min : minG [.int i, .int j] = some (.dat (.int (if j < i then j else i))) := rfl
@[simp] theorem s_isi1 {x : Z.D} {m : String} : isiG [x, .ty m] = (kindD x).bind fun k => if okTy m = true then some (.dat (.bl (isTy k m))) else none := rfl
@[simp] theorem s_isi2 {x : Z.D} : isiG [x, .tup ds] = (kindD x).bind fun k => (tysOf ds).bind fun ns => if ns.all okTy = true then some (.dat (.bl (ns.any fun n => isTy k n))) else none := rfl
@[simp] theorem s_truN : truD .non = some false := rfl
@[simp] theorem s_truB : truD (.bl b) = some b := rfl
-- targets, loops
@[simp] theorem s_nmB : nmB k d env = if k < env.length then some (env.set k (some (.dat d))) else none := rfl
@[simp] theorem s_nilB : nilB [] env = some env := rfl
@[simp] theorem s_consB : consB gb gbs (d :: ds) env = (gb d env).bind fun e => gbs ds e := rfl
@[simp] theorem s_tupBt : tupB k gbs (.tup ds) env = if ds.length = k then gbs ds env else none := rfl
@[simp] theorem s_tupBl : tupB k gbs (.lst ds) env = if ds.length = k then gbs ds env else none := rfl
@[simp] theorem s_seqI : seqI f env = ((f env).bind fun p => (kp p.2 (fz p.1)).bind fun q => (itemsOf q.1).bind fun ds => some (ds, q.2)) := rfl
@[simp] theorem s_itL : itemsOf (.lst ds) = some ds := rfl
@[simp] theorem s_itT : itemsOf (.tup ds) = some ds := rfl
@[simp] theorem s_itS {ns : List Int} : itemsOf (.scr ns) = some (ns.map Z.D.int) := rfl
@[simp] theorem s_rng1 : rngI1 fs env = ((fs env).bind fun p => (rdL p.2 p.1).bind fun ds => match ds with
  | [.int j] => if j.natAbs < 2 ^ 61 then some (rngD 0 j.toNat, p.2) else none
  | _ => none) := rfl
@[simp] theorem s_rng2 : rngI2 fs env = ((fs env).bind fun p => (rdL p.2 p.1).bind fun ds => match ds with
  | [.int i, .int j] => if i.natAbs < 2 ^ 61 ∧ j.natAbs < 2 ^ 61 then some (rngD i (j - i).toNat, p.2) else none
  | _ => none) := rfl
@[simp] theorem s_rng3 : rngI3 fs env = ((fs env).bind fun p => (rdL p.2 p.1).bind fun ds => match ds with
  | [.int i, .int j, .int (-1)] => if i.natAbs < 2 ^ 61 ∧ j.natAbs < 2 ^ 61 then some (rngC i (-1) (i - j).toNat, p.2) else none
  | _ => none) := rfl
@[simp] theorem s_enm : enmI fs env = ((fs env).bind fun p => (kpL p.2 p.1).bind fun q => match q.1 with
  | [.lst ds] => some (enumD ds, q.2)
  | [.tup ds] => some (enumD ds, q.2)
  | _ => none) := rfl
@[simp] theorem s_wipe0 : wipeE env [] = env := rfl
@[simp] theorem s_wipe1 : wipeE env (k :: vs) = (wipeE env vs).set k none := rfl
@[simp] theorem s_back0 {env0 : En} : backE env0 env [] = env := rfl
@[simp] theorem s_back1 {env0 : En} : backE env0 env (k :: vs) = (backE env0 env vs).set k (match env0[k]? with | some (some (.dat d)) => some (.dat d) | _ => none) := rfl
@[simp] theorem s_lcS {fi : Fi} : lcS fi gb t f vs env = ((fi env).bind fun p => if p.1.length ≤ 16777215 then (lcGo gb t f vs p.1 [] p.2).bind fun q => some (.own (.lst q.1), backE p.2 q.2 vs) else none) := rfl
@[simp] theorem s_yesT : yesT env = some (true, env) := rfl
-- statements
@[simp] theorem s_done : doneS env = some (.nx env) := rfl
@[simp] theorem s_brk : brkS env = some (.bk env) := rfl
@[simp] theorem s_noS : noS env = none := rfl
@[simp] theorem s_seq : seqS s s' env = (s env).bind fun o => match o with
  | .nx e => s' e
  | .bk e => some (.bk e)
  | .ct e => some (.ct e)
  | .rt r e => some (.rt r e) := rfl
@[simp] theorem s_ret : retS f env = (f env).bind fun p => some (.rt p.1 p.2) := rfl
@[simp] theorem s_iff : iffS t s s' env = (t env).bind fun p => if p.1 = true then s p.2 else s' p.2 := rfl
@[simp] theorem s_drop : dropS f env = (f env).bind fun p => some (.nx p.2) := rfl
@[simp] theorem s_asg : asgS k f env = (f env).bind fun p => (setE k p).bind fun e => some (.nx e) := rfl
@[simp] theorem s_setE {p : Rv × En} : setE k p = (match p.1 with
  | .own o => if k < p.2.length then some (p.2.set k (some (.own o))) else none
  | .dat d => nmB k d p.2
  | .slot j => (kp p.2 (.slot j)).bind fun q => nmB k q.1 q.2) := rfl
@[simp] theorem s_asgT : asgT gb f env = (f env).bind fun p => (kp p.2 (fz p.1)).bind fun q => (gb q.1 q.2).bind fun e => some (.nx e) := rfl
@[simp] theorem s_par {l : Nat} : parS k l fs env = (fs env).bind fun p => (kpL p.2 p.1).bind fun q => match q.1 with
  | [d, e] => (nmB k d q.2).bind fun e1 => (nmB l e e1).bind fun e2 => some (.nx e2)
  | _ => none := rfl
@[simp] theorem s_loop {fi : Fi} : loopS fi gb s env = (fi env).bind fun p => forS gb s p.1 p.2 := rfl
@[simp] theorem s_app : appS k f env = (lstOf env k).bind fun _ => (f env).bind fun p => (kp p.2 (fz p.1)).bind fun q => (lstOf q.2 k).bind fun ds => if ds.length < 16777216 then some (.nx (setOC q.2 k (.lst (ds ++ [q.1])))) else none := rfl
@[simp] theorem s_put : putS k fa f env = (f env).bind fun p => (kp p.2 (fz p.1)).bind fun q => (lstOf q.2 k).bind fun _ => (fa q.2).bind fun r => (rd r.2 (fz r.1)).bind fun dk => (intOf dk).bind fun m => (lstOf r.2 k).bind fun ds => (ixN ds.length m).bind fun j => some (.nx (setOC r.2 k (.lst (ds.set j q.1)))) := rfl
@[simp] theorem s_finn : fin (.nx env) = some (.dat .non) := rfl
@[simp] theorem s_find : fin (.rt (.dat d) env) = some (.dat d) := rfl
@[simp] theorem s_fino : fin (.rt (.own o) env) = some (.own o) := rfl
@[simp] theorem s_fins : fin (.rt (.slot k) env) = (match env[k]? with | some (some (.dat d)) => some (.dat d) | some (some (.own o)) => some (.own o) | _ => none) := rfl
@[simp] theorem s_fin2 {x : Out} : fin2 x = (fin x).bind fun r => (parOf (outE x)).bind fun c => some (r, c) := rfl
@[simp] theorem s_parOf : parOf (some (.par o) :: env) = some o := rfl
@[simp] theorem s_outn : outE (.nx env) = env := rfl
@[simp] theorem s_outr : outE (.rt r env) = env := rfl
@[simp] theorem s_runP {N : List Str} : runP N s ds = (s (startE N ds)).bind fin := rfl
@[simp] theorem s_runM {N : List Str} : runM N s o ds = (s (startM N o ds)).bind fin2 := rfl
@[simp] theorem s_startE {N : List Str} : startE N ds = ds.map (fun d => some (Sl.dat d)) ++ List.replicate (N.length - ds.length) none := rfl
@[simp] theorem s_startM {N : List Str} : startM N o ds = some (.par o) :: (ds.map (fun d => some (Sl.dat d)) ++ List.replicate (N.length - (ds.length + 1)) none) := rfl
end
/-- the items of a short row by their places -/
@[simp] theorem at0 {α : Type} {x : α} {xs : List α} : atI (x :: xs) 0 = some x := by unfold atI ixN; simp
@[simp] theorem at1 {α : Type} {x y : α} {xs : List α} : atI (x :: y :: xs) 1 = some y := by
  unfold atI ixN
  rw [if_pos (by decide), if_pos (by simp only [List.length_cons]; omega)]
  rfl
@[simp] theorem at2 {α : Type} {x y z : α} {xs : List α} : atI (x :: y :: z :: xs) 2 = some z := by
  unfold atI ixN
  rw [if_pos (by decide), if_pos (by simp only [List.length_cons]; omega)]
  rfl
@[simp] theorem at3 {α : Type} {x y z u : α} {xs : List α} : atI (x :: y :: z :: u :: xs) 3 = some u := by
  unfold atI ixN
  rw [if_pos (by decide), if_pos (by simp only [List.length_cons]; omega)]
  rfl
@[simp] theorem ixN_0 {n : Nat} : ixN n 0 = if 0 < n then some 0 else none := by
  unfold ixN
  by_cases h : 0 < n
  · rw [if_pos h, if_pos (by decide), if_pos (by omega)]; rfl
  · rw [if_neg h, if_pos (by decide), if_neg (by omega)]
@[simp] theorem ixN_1 {n : Nat} : ixN n 1 = if 1 < n then some 1 else none := by
  unfold ixN
  by_cases h : 1 < n
  · rw [if_pos h, if_pos (by decide), if_pos (by omega)]; rfl
  · rw [if_neg h, if_pos (by decide), if_neg (by omega)]
@[simp] theorem ixN_2 {n : Nat} : ixN n 2 = if 2 < n then some 2 else none := by
  unfold ixN
  by_cases h : 2 < n
  · rw [if_pos h, if_pos (by decide), if_pos (by omega)]; rfl
  · rw [if_neg h, if_pos (by decide), if_neg (by omega)]
@[simp] theorem ixN_3 {n : Nat} : ixN n 3 = if 3 < n then some 3 else none := by
  unfold ixN
  by_cases h : 3 < n
  · rw [if_pos h, if_pos (by decide), if_pos (by omega)]; rfl
  · rw [if_neg h, if_pos (by decide), if_neg (by omega)]
end Z

set_option Elab.async false
set_option linter.all false
set_option maxRecDepth 100000
set_option maxHeartbeats 1000000
/-! Rules for reckoning with meanings: loops, comprehensions. -/
namespace Z
open PySem PySem.Spec PyProof.Rows L2
def Ok {α : Type} (x : Option α) (P : α → Prop) : Prop := ∃ a, x = some a ∧ P a
theorem Ok.mono {α : Type} {x : Option α} {P Q : α → Prop} (h : Ok x P) (k : ∀ a, P a → Q a) : Ok x Q := by
  obtain ⟨a, h1, h2⟩ := h; exact ⟨a, h1, k a h2⟩
theorem forS_ok {b : Fb} {f : Fs} (I : List Z.D → En → Prop) (P : Out → Prop)
    (step : ∀ d ds env, I (d :: ds) env → ∃ e1 o, b d env = some e1 ∧ f e1 = some o ∧ match o with
      | .nx e => I ds e
      | .ct e => I ds e
      | .bk e => P (.nx e)
      | .rt r e => P (.rt r e)) (stop : ∀ env, I [] env → P (.nx env)) : ∀ ds env, I ds env → Ok (forS b f ds env) P
  | [], env, h => ⟨_, rfl, stop env h⟩
  | d :: ds, env, h => by
    obtain ⟨e1, o, h1, h2, h3⟩ := step d ds env h
    unfold forS
    rw [h1, Option.bind_some, h2, Option.bind_some]
    cases o with
    | nx e => exact forS_ok I P step stop ds e h3
    | ct e => exact forS_ok I P step stop ds e h3
    | bk e => exact ⟨_, rfl, h3⟩
    | rt r e => exact ⟨_, rfl, h3⟩
/-- a loop whose body never leaves it -/
theorem forS_nx {b : Fb} {f : Fs} (I : List Z.D → En → Prop) (step : ∀ d ds env, I (d :: ds) env → ∃ e1 e2, b d env = some e1 ∧ f e1 = some (.nx e2) ∧ I ds e2) : ∀ ds env, I ds env → ∃ env', forS b f ds env = some (.nx env') ∧ I [] env'
  | [], env, h => ⟨_, rfl, h⟩
  | d :: ds, env, h => by
    obtain ⟨e1, o, h1, h2, h3⟩ := step d ds env h
    unfold forS
    rw [h1, Option.bind_some, h2, Option.bind_some]
    exact forS_nx I step ds o h3
theorem set_back {env : En} {i : Nat} {x : Option Sl} (h : env[i]? = some x) : env.set i x = env := by
  refine List.ext_getElem? fun j => ?_
  by_cases z : i = j
  · subst z; rw [List.getElem?_set_self (get_lt h), h]
  · rw [List.getElem?_set_ne z]
theorem lcGo_map {i : Nat} {f : Fe} {env1 : En} (r : Z.D → Z.D) (hi : i < env1.length) : ∀ (ds acc : List Z.D) (env : En), env.set i none = env1.set i none →
    (∀ d ∈ ds, ∃ rv, f (env1.set i (some (.dat d))) = some (rv, env1.set i (some (.dat d))) ∧ kp (env1.set i (some (.dat d))) (fz rv) = some (r d, env1.set i (some (.dat d)))) →
    lcGo (nmB i) yesT f [i] ds acc env = some (acc ++ ds.map r, env1.set i none)
  | [], acc, env, he, _ => by
    unfold lcGo
    rw [s_wipe1, s_wipe0, he, List.map_nil, List.append_nil]
  | d :: ds, acc, env, he, h => by
    obtain ⟨rv, h1, h2⟩ := h d (List.mem_cons_self ..)
    unfold lcGo
    rw [s_wipe1, s_wipe0, he]
    show (Option.bind (if i < (env1.set i none).length then some ((env1.set i none).set i (some (.dat d))) else none) _) = _
    rw [List.length_set, if_pos hi, Option.bind_some, List.set_set, s_yesT, Option.bind_some, if_pos rfl, h1, Option.bind_some, h2, Option.bind_some]
    rw [lcGo_map r hi ds (acc ++ [r d]) (env1.set i (some (.dat d))) (by rw [List.set_set]) (fun e he => h e (List.mem_cons_of_mem _ he)), List.map_cons, List.append_assoc]
    rfl
theorem lcS_map {fi : Fi} {i : Nat} {f : Fe} {env env1 : En} {ds : List Z.D} (r : Z.D → Z.D) (h1 : fi env = some (ds, env1)) (hl : ds.length ≤ 16777215) (hs : env1[i]? = some none ∨ ∃ d, env1[i]? = some (some (.dat d)))
    (h : ∀ d ∈ ds, ∃ rv, f (env1.set i (some (.dat d))) = some (rv, env1.set i (some (.dat d))) ∧ kp (env1.set i (some (.dat d))) (fz rv) = some (r d, env1.set i (some (.dat d)))) :
    lcS fi (nmB i) yesT f [i] env = some (.own (.lst (ds.map r)), env1) := by
  have hi : i < env1.length := by rcases hs with h | ⟨_, h⟩ <;> exact get_lt h
  rw [s_lcS, h1, Option.bind_some, if_pos hl, lcGo_map r hi ds [] env1 rfl h, Option.bind_some, List.nil_append]
  congr 2
  rw [s_back1, s_back0, List.set_set]
  rcases hs with h | ⟨d, h⟩
  · rw [h]; exact set_back h
  · rw [h]; exact set_back h
end Z

set_option Elab.async false
set_option linter.all false
set_option maxRecDepth 100000
set_option maxHeartbeats 1000000
/-! Nested data compared; dicts whose keys are tuples of ints. -/
namespace Z
open PySem PySem.Spec PyProof.Rows L2
mutual
def pyD : Z.D → Option PyData
  | .non => some .none
  | .bl b => some (.bool b)
  | .int i => some (.int i)
  | .str x => some (.str x)
  | .tup ds => (pyL ds).bind fun p => some (.tuple p)
  | .lst ds => (pyL ds).bind fun p => some (.list p)
  | _ => none
def pyL : List Z.D → Option (List PyData)
  | [] => some []
  | d :: r => (pyD d).bind fun p => (pyL r).bind fun q => some (p :: q)
end
section
variable {X : Cx} {K : PySem.W.Frag} {cl : Str → Addr} {F H : Hp}
mutual
theorem dp_of (le : Le F H) : ∀ {v : V} {d : Z.D} {p : PyData}, At K cl F v d → pyD d = some p → Dp K H v p
  | _, _, _, .non, h => by unfold pyD at h; cases h; exact .non
  | _, _, _, .bl b, h => by unfold pyD at h; cases h; exact .bl b
  | _, _, _, .int i, h => by unfold pyD at h; cases h; exact .int i
  | _, _, _, .str x, h => by unfold pyD at h; cases h; exact .str x
  | _, _, _, .tup e a, h => by
    unfold pyD at h
    obtain ⟨q, h1, h2⟩ := Option.bind_eq_some_iff.mp h
    cases h2
    exact .tup (SqT.of (le _ _ e)) (dps_of le a h1)
  | _, _, _, .lst e a, h => by
    unfold pyD at h
    obtain ⟨q, h1, h2⟩ := Option.bind_eq_some_iff.mp h
    cases h2
    exact .lst (SqL.of (le _ _ e)) (dps_of le a h1)
  | _, _, _, .ty _, h => by unfold pyD at h; cases h
  | _, _, _, .scr _, h => by unfold pyD at h; cases h
  | _, _, _, .ptup _ _ _, h => by unfold pyD at h; cases h
  | _, _, _, .dk _ _ _, h => by unfold pyD at h; cases h
  | _, _, _, .dt _ _ _, h => by unfold pyD at h; cases h
  | _, _, _, .obj _ _ _, h => by unfold pyD at h; cases h
theorem dps_of (le : Le F H) : ∀ {vs : List V} {ds : List Z.D} {ps : List PyData}, AtAll K cl F vs ds → pyL ds = some ps → DpAll K H vs ps
  | _, _, _, .nil, h => by unfold pyL at h; cases h; exact .nil
  | _, _, _, .cons a t, h => by
    unfold pyL at h
    obtain ⟨p, h1, h2⟩ := Option.bind_eq_some_iff.mp h
    obtain ⟨q, h3, h4⟩ := Option.bind_eq_some_iff.mp h2
    cases h4
    exact .cons (dp_of le a h1) (dps_of le t h3)
end
/-! ### < of tuples of alike data -/
def rLtDat (K : PySem.W.Frag) : R2 := fun x y H Q => ∃ p q, Dp K H x p ∧ Dp K H y q ∧ PySem.W.alike p q = true ∧ p ≠ .none ∧ p.depth ≤ 60 ∧ Q (.bl (PySem.W.dataLt p q)) H
theorem op_ltDat (hu : X.A.units + 64 < cLine) : OpR X (compareOp .Lt) (rLtDat X.K) := by
  intro pins s σ H x y v u Q I rx ry h
  obtain ⟨p, q, hp, hq, ha, hn, hd, k⟩ := h
  obtain ⟨as, r1⟩ := Dp.reads I p x v hp rx
  obtain ⟨bs, r2⟩ := Dp.reads I q y u hq ry
  exact PySem.W.lt_data r1 r2 ha hn (by omega) ⟨.bl _, H, I, rfl, k⟩
def lt3G : Z.D → Z.D → Option Bool
  | .int i, .int j => some (decide (i < j))
  | .tup a, .tup b => match intsOf a, intsOf b with
    | some ns, some ms => some (HT.lexLt ns ms)
    | _, _ => (pyL a).bind fun p => (pyL b).bind fun q => if PySem.W.alike (.tuple p) (.tuple q) = true ∧ (PyData.tuple p).depth ≤ 60 then some (PySem.W.dataLt (.tuple p) (.tuple q)) else none
  | _, _ => none
def rLt3 (K : PySem.W.Frag) : R2 := fun x y H Q => rLt2 K x y H Q ∨ rLtDat K x y H Q
theorem op_lt3 (hu : X.A.units + 64 < cLine) : OpR X (compareOp .Lt) (rLt3 X.K) := OpR_or (op_lt2 hu) (op_ltDat hu)
theorem lt3_ok : Op2 K cl (bRes lt3G) (rLt3 K) := by
  intro F H x y d e rv Q le hx hy hg res
  obtain ⟨b, h1, hg2⟩ := Option.bind_eq_some_iff.mp hg
  unfold lt3G at h1
  split at h1
  · exact .inl (lt2_ok F H x y _ _ rv Q le hx hy (by cases h1; exact hg2) res)
  · rename_i a b'
    split at h1
    · rename_i ns ms h2 h3
      refine .inl (lt2_ok F H x y _ _ rv Q le hx hy ?_ res)
      show Option.bind ((intsOf a).bind fun ns => (intsOf b').bind fun ms => some (HT.lexLt ns ms)) _ = _
      rw [h2, Option.bind_some, h3, Option.bind_some, h1]
      exact hg2
    · obtain ⟨p, h2, h1⟩ := Option.bind_eq_some_iff.mp h1
      obtain ⟨q, h3, h1⟩ := Option.bind_eq_some_iff.mp h1
      split at h1
      · rename_i hc
        cases h1
        cases hg2
        refine .inr ⟨.tuple p, .tuple q, ?_, ?_, hc.1, nofun, hc.2, res.dat0 (.bl _)⟩
        · exact dp_of le (show At K cl F x (.tup a) from hx) (by unfold pyD; rw [h2]; rfl)
        · exact dp_of le (show At K cl F y (.tup b') from hy) (by unfold pyD; rw [h3]; rfl)
      · cases h1
  · cases h1
/-! ### dicts -/
def keyD : Z.D → Option (List Key)
  | .tup ds => (intsOf ds).bind fun ns => some (ns.map Sum.inl)
  | _ => none
theorem key_at {y : V} {d : Z.D} {k : List Key} (le : Le F H) (h : AtT K cl F H y d) (hk : keyD d = some k) : ∃ b, y = .ref b ∧ H b = some (.tup (k.map kV)) := by
  unfold keyD at hk
  split at hk
  · obtain ⟨ns, h1, hk⟩ := Option.bind_eq_some_iff.mp hk
    cases hk
    rw [intsOf_eq h1] at h
    obtain ⟨a, vs, rfl, e, al⟩ := at_tup h
    rw [al.intsV] at e
    refine ⟨a, rfl, ?_⟩
    rw [le _ _ e, List.map_map]
    rfl
  · cases hk
section
variable {α : Type}
def valZ (ks : List (List Key)) (xs : List α) (k : List Key) : Option α := ((ks.zip xs).find? fun kv => decide (kv.1 = k)).map (·.2)
def putZ (ks : List (List Key)) (xs : List α) (k : List Key) (x : α) : List (List Key) × List α :=
  if (ks.any fun j => decide (j = k)) = true then (ks, List.zipWith (fun j y => if j = k then x else y) ks xs) else (ks ++ [k], xs ++ [x])
end
theorem valZ_at {k : List Key} : ∀ {ks : List (List Key)} {vs : List V} {ds : List Z.D}, AtAll K cl F vs ds → ks.length = vs.length →
    (valZ ks vs k).isSome = (valZ ks ds k).isSome ∧ ∀ d, valZ ks ds k = some d → ∃ v, valZ ks vs k = some v ∧ At K cl F v d
  | [], _, _, _, _ => ⟨by simp [valZ], fun d h => by simp [valZ] at h⟩
  | j :: ks, v :: vs, d :: ds, .cons a t, hl => by
    obtain ⟨h1, h2⟩ := valZ_at (k := k) (ks := ks) t (by simpa using hl)
    by_cases c : j = k
    · have e1 : ∀ {β : Type} (x : β) (xs : List β), valZ (j :: ks) (x :: xs) k = some x := fun x xs => by unfold valZ; simp [List.find?_cons, c]
      rw [e1, e1]
      exact ⟨rfl, fun d' h => by cases h; exact ⟨v, rfl, a⟩⟩
    · have e1 : ∀ {β : Type} (x : β) (xs : List β), valZ (j :: ks) (x :: xs) k = valZ ks xs k := fun x xs => by unfold valZ; simp [List.find?_cons, c]
      rw [e1, e1]
      exact ⟨h1, h2⟩
  | j :: ks, [], _, .nil, hl => by simp at hl
theorem valV_z {ks : List (List Key)} {vs : List V} {k : List Key} : valV (ks.zip vs) k = valZ ks vs k := rfl
theorem putK_z {k : List Key} {v : V} {ks : List (List Key)} {vs : List V} (hl : ks.length = vs.length) : putK (ks.zip vs) k v = (putZ ks vs k v).1.zip (putZ ks vs k v).2 := by
  have e1 : ∀ (ks : List (List Key)) (vs : List V), ks.length = vs.length → ((ks.zip vs).any fun kv => decide (kv.1 = k)) = ks.any fun j => decide (j = k) := by
    intro ks
    induction ks with
    | nil => intro vs h; simp
    | cons j ks ih =>
      intro vs h
      cases vs with
      | nil => simp at h
      | cons v vs => rw [List.zip_cons_cons, List.any_cons, List.any_cons, ih vs (by simpa using h)]
  have e2 : ∀ (ks : List (List Key)) (vs : List V), (ks.zip vs).map (fun kv => if kv.1 = k then (kv.1, v) else kv) = ks.zip (List.zipWith (fun j y => if j = k then v else y) ks vs) := by
    intro ks
    induction ks with
    | nil => intro vs; simp
    | cons j ks ih =>
      intro vs
      cases vs with
      | nil => simp
      | cons w vs =>
        rw [List.zip_cons_cons, List.map_cons, List.zipWith_cons_cons, List.zip_cons_cons, ih]
        congr 1
        dsimp only
        split <;> rfl
  unfold putK putZ
  rw [e1 ks vs hl]
  split
  · exact e2 ks vs
  · rw [List.zip_append hl]
    rfl
theorem putZ_len {β : Type} {k : List Key} {x : β} {ks : List (List Key)} {xs : List β} (hl : ks.length = xs.length) : (putZ ks xs k x).1.length = (putZ ks xs k x).2.length := by
  unfold putZ
  split
  · simp [hl]
  · simp [hl]
theorem putZ_fst {β γ : Type} {k : List Key} {x : β} {y : γ} {ks : List (List Key)} {xs : List β} {ys : List γ} : (putZ ks xs k x).1 = (putZ ks ys k y).1 := by
  unfold putZ
  split <;> rfl
theorem putZ_at {k : List Key} {v : V} {d : Z.D} {ks : List (List Key)} {vs : List V} {ds : List Z.D} (a : At K cl F v d) (al : AtAll K cl F vs ds) : AtAll K cl F (putZ ks vs k v).2 (putZ ks ds k d).2 := by
  have e : ∀ (ks : List (List Key)) {vs : List V} {ds : List Z.D}, AtAll K cl F vs ds → AtAll K cl F (List.zipWith (fun j y => if j = k then v else y) ks vs) (List.zipWith (fun j y => if j = k then d else y) ks ds) := by
    intro ks
    induction ks with
    | nil => intro vs ds h; simp; exact .nil
    | cons j ks ih =>
      intro vs ds h
      cases h with
      | nil => simp; exact .nil
      | cons b t =>
        rw [List.zipWith_cons_cons, List.zipWith_cons_cons]
        refine .cons ?_ (ih t)
        split
        · exact a
        · exact b
  unfold putZ
  split
  · exact e ks al
  · exact al.append (.cons a .nil)
theorem at_dt {x : V} {ks : List (List Key)} {ds : List Z.D} (h : AtT K cl F H x (.dt ks ds)) : ∃ a vs, x = .ref a ∧ H a = some (.dT (ks.zip vs)) ∧ ks.length = vs.length ∧ AtAll K cl F vs ds := h
def rDG : R2 := fun x y H Q => ∃ a v, x = .ref a ∧ DGet H a y (some v) ∧ Q v H
def dgG : Z.D → Z.D → Option Rv
  | .dt ks ds, e => (keyD e).bind fun k => (valZ ks ds k).bind fun d => some (.dat d)
  | _, _ => none
theorem dg_ok : Op2 K cl dgG rDG := by
  intro F H x y d e rv Q le hx hy hg res
  unfold dgG at hg
  split at hg
  · obtain ⟨k, h1, hg⟩ := Option.bind_eq_some_iff.mp hg
    obtain ⟨d', h2, hg⟩ := Option.bind_eq_some_iff.mp hg
    cases hg
    obtain ⟨a, vs, rfl, e1, hl, al⟩ := at_dt hx
    obtain ⟨b, rfl, e2⟩ := key_at le hy h1
    obtain ⟨v, h3, h4⟩ := (valZ_at (k := k) al hl).2 d' h2
    exact ⟨a, v, rfl, .inr ⟨_, k, b, .inl e1, rfl, e2, h3.symm⟩, res.dat0 h4⟩
  · cases hg
theorem pr_dg {a b : Expr} {pos : Pos} {fa fb : Fe} (hu : X.A.units + 64 < cLine) (ha : PE X a (tR X.K cl fa)) (hb : PE X b (tR X.K cl fb)) (hs : NoSl b) : PE X (.Subscript a b pos) (tR X.K cl (bin2 dgG fa fb)) :=
  PE_weak (pe_dget (by omega) ha hb hs) (bin2_op dg_ok)
def rDI (neg : Bool) : R2 := fun y x H Q => ∃ a o, x = .ref a ∧ DGet H a y o ∧ Q (.bl (o.isSome != neg)) H
def diG (neg : Bool) : Z.D → Z.D → Option Bool
  | e, .dt ks ds => (keyD e).bind fun k => some ((valZ ks ds k).isSome != neg)
  | _, _ => none
theorem di_ok {neg : Bool} : Op2 K cl (bRes (diG neg)) (rDI neg) := by
  intro F H x y d e rv Q le hx hy hg res
  obtain ⟨b, h1, hg⟩ := Option.bind_eq_some_iff.mp hg
  cases hg
  unfold diG at h1
  split at h1
  · obtain ⟨k, h2, h1⟩ := Option.bind_eq_some_iff.mp h1
    cases h1
    obtain ⟨a, vs, rfl, e1, hl, al⟩ := at_dt hy
    obtain ⟨b, rfl, e2⟩ := key_at le hx h2
    refine ⟨a, valZ _ vs k, rfl, .inr ⟨_, k, b, .inl e1, rfl, e2, rfl⟩, ?_⟩
    rw [(valZ_at (k := k) al hl).1]
    exact res.dat0 (.bl _)
  · cases h1
theorem cmpT_op {g : Z.D → Z.D → Option Bool} {r : R2} {fa fb : Fe} (hs : Op2 X.K cl (bRes g) r) : ∀ σ H Q, tT X.K cl (cmpT g fa fb) σ H Q → tOp r (tR X.K cl fa) (tR X.K cl fb) σ H (fun v H' => ∃ c, v = .bl c ∧ Q c H') := by
  rintro σ H Q ⟨pa, F, R, ad, env, b, env', S, hf, k⟩
  unfold cmpT at hf
  obtain ⟨⟨r1, e1⟩, h1, hf⟩ := Option.bind_eq_some_iff.mp hf
  obtain ⟨⟨r2, e2⟩, h2, hf⟩ := Option.bind_eq_some_iff.mp hf
  obtain ⟨d1, h3, hf⟩ := Option.bind_eq_some_iff.mp hf
  obtain ⟨d2, h4, hf⟩ := Option.bind_eq_some_iff.mp hf
  obtain ⟨rr, h5, hf⟩ := Option.bind_eq_some_iff.mp hf
  cases hf
  refine bin2_op hs σ H _ ⟨pa, F, R, ad, env, .dat (.bl b), e2, S, ?_, fun F' ad' H' v l S' a' => ⟨b, ?_, k F' ad' H' l S'⟩⟩
  · unfold bin2
    rw [h1, Option.bind_some, h2, Option.bind_some, h3, Option.bind_some, h4, Option.bind_some]
    unfold bRes
    rw [h5]
    rfl
  · cases a'; rfl
theorem di_in {σ : L2.St} {H : Hp} {Q : VK} {ty td : TE} (q : tOp (rDI false) ty td σ H Q) (m : ∀ σ H (P P' : VK), ty σ H P → (∀ v H, P v H → P' v H) → ty σ H P') (m2 : ∀ σ H (P P' : VK), td σ H P → (∀ v H, P v H → P' v H) → td σ H P') : tDIn ty td σ H Q :=
  m σ H _ _ q fun y H1 q1 => m2 σ H1 _ _ q1 fun x H2 ⟨a, o, ex, g, k⟩ => ⟨a, o, ex, g, by simpa using k⟩
theorem tR_mono {f : Fe} : ∀ σ H (P P' : VK), tR K cl f σ H P → (∀ v H, P v H → P' v H) → tR K cl f σ H P' := by
  rintro σ H P P' ⟨pa, F, R, ad, env, rv, env', S, hf, k⟩ w
  exact ⟨pa, F, R, ad, env, rv, env', S, hf, fun F' ad' H' v l S' a' => w _ _ (k F' ad' H' v l S' a')⟩
theorem di_notin {σ : L2.St} {H : Hp} {Q : VK} {ty td : TE} (q : tOp (rDI true) ty td σ H Q) (m : ∀ σ H (P P' : VK), ty σ H P → (∀ v H, P v H → P' v H) → ty σ H P') (m2 : ∀ σ H (P P' : VK), td σ H P → (∀ v H, P v H → P' v H) → td σ H P') : tDNotIn ty td σ H Q :=
  m σ H _ _ q fun y H1 q1 => m2 σ H1 _ _ q1 fun x H2 ⟨a, o, ex, g, k⟩ => ⟨a, o, ex, g, by simpa using k⟩
theorem pr_din {a b : Expr} {pos : Pos} {fa fb : Fe} (hu : X.A.units + 64 < cLine) (ha : PE X a (tR X.K cl fa)) (hb : PE X b (tR X.K cl fb)) (h1 : behindInMarks .In b = false := by first | exact nobehind _ (by decide) (by decide) | rfl) : PE X (.Compare a [.In] [b] pos) (tR X.K cl (bin2 (bRes (diG false)) fa fb)) :=
  PE_weak (pe_cmp (pc_din (by omega) ha hb) h1) fun σ H Q q => di_in (bin2_op (di_ok (neg := false)) σ H Q q) tR_mono tR_mono
theorem pr_dni {a b : Expr} {pos : Pos} {fa fb : Fe} (hu : X.A.units + 64 < cLine) (ha : PE X a (tR X.K cl fa)) (hb : PE X b (tR X.K cl fb)) (h1 : behindInMarks .NotIn b = false := by first | exact nobehind _ (by decide) (by decide) | rfl) : PE X (.Compare a [.NotIn] [b] pos) (tR X.K cl (bin2 (bRes (diG true)) fa fb)) :=
  PE_weak (pe_cmp (pc_dnotin (by omega) ha hb) h1) fun σ H Q q => di_notin (bin2_op (di_ok (neg := true)) σ H Q q) tR_mono tR_mono
theorem pq_din {a b : Expr} {pos : Pos} {fa fb : Fe} (hu : X.A.units + 64 < cLine) (ha : PE X a (tR X.K cl fa)) (hb : PE X b (tR X.K cl fb)) (h1 : behindInMarks .In b = false := by first | exact nobehind _ (by decide) (by decide) | rfl) : PT X (.Compare a [.In] [b] pos) (tT X.K cl (cmpT (diG false) fa fb)) :=
  PT_weak (pt_cmp (pc_din (by omega) ha hb) h1) fun σ H Q q => di_in (cmpT_op (di_ok (neg := false)) σ H Q q) tR_mono tR_mono
theorem pq_dni {a b : Expr} {pos : Pos} {fa fb : Fe} (hu : X.A.units + 64 < cLine) (ha : PE X a (tR X.K cl fa)) (hb : PE X b (tR X.K cl fb)) (h1 : behindInMarks .NotIn b = false := by first | exact nobehind _ (by decide) (by decide) | rfl) : PT X (.Compare a [.NotIn] [b] pos) (tT X.K cl (cmpT (diG true) fa fb)) :=
  PT_weak (pt_cmp (pc_dnotin (by omega) ha hb) h1) fun σ H Q q => di_notin (cmpT_op (di_ok (neg := true)) σ H Q q) tR_mono tR_mono
/-- {} -/
def newDS : Fe := fun env => some (.own (.dct [] []), env)
theorem pr_dnew {pos : Pos} : PE X (.Dict [] [] pos) (tR X.K cl newDS) := by
  refine PE_weak pe_dnewT fun σ H Q q => ?_
  obtain ⟨pa, F, R, ad, env, rv, env', S, hf, k⟩ := q
  cases hf
  intro p hp
  have res : Res X.K cl F H (.own (.dct [] [])) Q := S.res fun F3 ad3 H3 v le3 S3 a3 => k F3 ad3 H3 v le3 S3 a3
  exact res.dtN hp
/-- x[k] = e, x a dict -/
def dctOf (env : En) (i : Nat) : Option (List (List Key) × List Z.D) := match ocOf env i with
  | some (.dct ks ds) => some (ks, ds)
  | _ => none
theorem dctOf_eq {env : En} {i : Nat} {t : List (List Key) × List Z.D} (h : dctOf env i = some t) : ocOf env i = some (.dct t.1 t.2) := by
  unfold dctOf at h
  split at h
  · cases h; assumption
  · cases h
def putDS (i : Nat) (fk f : Fe) : Fs := fun env => (f env).bind fun p => (kp p.2 (fz p.1)).bind fun q => (dctOf q.2 i).bind fun _ => (fk q.2).bind fun r => (rd r.2 (fz r.1)).bind fun dk => (keyD dk).bind fun k => (dctOf r.2 i).bind fun t =>
  if t.1.length < 16777216 then some (.nx (setOC r.2 i (.dct (putZ t.1 t.2 k q.1).1 (putZ t.1 t.2 k q.1).2))) else none
theorem qs_dput {i : Nat} {st : Stmt} {fk f : Fe} (h : PS X st (sDPut (tVar i) (tR X.K cl fk) (tR X.K cl f))) : PS X st (tS X.K cl (putDS i fk f)) := by
  refine PS_weak h fun E σ H q => ?_
  obtain ⟨pa, F, R, ad, env, out, S, hf, k⟩ := q
  unfold putDS at hf
  obtain ⟨⟨r1, e1⟩, h1, hf⟩ := Option.bind_eq_some_iff.mp hf
  obtain ⟨⟨d, e2⟩, h2, hf⟩ := Option.bind_eq_some_iff.mp hf
  obtain ⟨t0, h0, hf⟩ := Option.bind_eq_some_iff.mp hf
  obtain ⟨⟨r3, e3⟩, h3, hf⟩ := Option.bind_eq_some_iff.mp hf
  obtain ⟨d4, h4, hf⟩ := Option.bind_eq_some_iff.mp hf
  obtain ⟨kk, h5, hf⟩ := Option.bind_eq_some_iff.mp hf
  obtain ⟨⟨ks, ds⟩, h6, hf⟩ := Option.bind_eq_some_iff.mp hf
  split at hf
  · rename_i hlt
    cases hf
    refine ⟨pa, F, R, ad, env, r1, e1, S, h1, fun F1 ad1 H1 v l S1 a1 => ?_⟩
    obtain ⟨F2, l2, S2, a2⟩ := S1.fzz a1
    obtain ⟨F3, l3, S3, a3⟩ := S2.keep a2 h2
    obtain ⟨q1, q2, q3, vs0, q4, q5⟩ := S3.oc i _ (dctOf_eq h0)
    refine ⟨.ref (ad1 i), q1, pa, F3, R, ad1, e2, r3, e3, S3, h3, fun F4 ad4 H4 u l4 S4 a4 => ?_⟩
    obtain ⟨F5, l5, S5, a5⟩ := S4.fzz a4
    have t := S5.read a5 h4
    obtain ⟨b, rfl, eb⟩ := key_at S5.fh t h5
    obtain ⟨z1, z2, z3, vs, z4, z5, z6⟩ := S5.oc i _ (dctOf_eq h6)
    have ea : ad1 i = ad4 i := by rw [q1] at z1; exact V.ref.inj (Option.some.inj (Option.some.inj z1))
    have hkl : (ks.zip vs).length < sizeLine := by
      rw [List.length_zip, ← z5, Nat.min_self, sizeLine_eq]; exact hlt
    refine ⟨ad4 i, _, by rw [ea], .inr ⟨_, kk, b, z4, rfl, eb, hkl, rfl⟩, ?_⟩
    refine k F5 ad4 σ _ ((((l.trans l2).trans l3).trans l4).trans l5) (S5.write (dctOf_eq h6) ⟨(putZ ks vs kk v).2, ?_, ?_, putZ_at (a3.mono (l4.trans l5)) z6⟩)
    · rw [upd_same, putK_z z5, putZ_fst (x := v) (y := d) (ys := ds)]
    · rw [putZ_fst (x := d) (y := v) (ys := vs)]; exact putZ_len z5
  · cases hf
/-- x[::-1], a list -/
def revS (f : Fe) : Fe := fun env => (f env).bind fun p => (rd p.2 (fz p.1)).bind fun d => match d with
  | .lst ds => some (.own (.lst ds.reverse), p.2)
  | _ => none
theorem pr_rev {st : Expr} {f : Fe} (h : PE X st (tRevL X.K (tR X.K cl f))) : PE X st (tR X.K cl (revS f)) := by
  refine PE_weak h fun σ H Q q => ?_
  obtain ⟨pa, F, R, ad, env, rv, env', S, hf, k⟩ := q
  unfold revS at hf
  obtain ⟨⟨r1, e1⟩, h1, hf⟩ := Option.bind_eq_some_iff.mp hf
  obtain ⟨d, h2, hf⟩ := Option.bind_eq_some_iff.mp hf
  dsimp only at hf
  split at hf
  · rename_i ds
    cases hf
    refine ⟨pa, F, R, ad, env, r1, _, S, h1, fun F1 ad1 H1 v l S1 a1 => ?_⟩
    obtain ⟨F2, l2, S2, a2⟩ := S1.fzz a1
    obtain ⟨a, vs, rfl, e, al⟩ := (show ∃ a vs, v = .ref a ∧ H1 a = some (.lst vs) ∧ AtAll X.K cl F2 vs ds from S2.read a2 h2)
    refine ⟨a, vs, rfl, SqL.of e, fun p hp => ?_⟩
    have res : Res X.K cl F2 H1 (.own (.lst ds.reverse)) Q := S2.res fun F3 ad3 H3 v le3 S3 a3 => k F3 ad3 H3 v ((l.trans l2).trans le3) S3 a3
    exact res.lst hp al.reverse
  · cases hf
end
theorem hu1 {n : Nat} (h : n + 64 < cLine) : n + 1 < cLine := by omega
/-! ### a op b op c op d, as a test -/
section
variable {X : Cx} {cl : Str → Addr} {a b c d o : Expr} {pos : Pos} {ta tb tc td : TE} {fa fb fc fd : Fe}
def tChain3 (r r' r'' : R2) (ta tb tc td : TE) (σ : L2.St) (H : Hp) (Q : Bool → Hp → Prop) : Prop := ta σ H fun x H1 => tb σ H1 fun y H2 => r x y H2 fun z H3 => ∃ k, z = .bl k ∧
  (if k = true then tc σ H3 fun w H4 => r' y w H4 fun z' H5 => ∃ k', z' = .bl k' ∧ (if k' = true then td σ H5 fun v H6 => r'' w v H6 fun z2 H7 => ∃ k2, z2 = .bl k2 ∧ Q k2 H7 else Q false H5) else Q false H3)
theorem pt_chain3 {o1 o2 o3 : CmpOp} {r r' r'' : R2} (h1 : OpR X (compareOp o1) r) (h2 : OpR X (compareOp o2) r') (h3 : OpR X (compareOp o3) r'') (ha : PE X a ta) (hb : PE X b tb) (hc : PE X c tc) (hd : PE X d td)
    (hm : lastMarks [o1, o2, o3] [b, c, d] = false := by with_unfolding_all rfl) : PT X (.Compare a [o1, o2, o3] [b, c, d] pos) (tChain3 r r' r'' ta tb tc td) := by
  refine ⟨fun pins s σ H Q I h => ?_⟩
  refine isTrue_chain (thn (ha.run pins s σ H _ I h) fun v s1 ⟨x, H1, I1, r1, q1⟩ => ?_) hm
  refine test_link (thn (hb.run pins s1 σ H1 _ I1 q1) fun u s2 ⟨y, H2, I2, r2, q2⟩ => ?_)
  refine thn (h1 pins s2 σ H2 x y v u _ I2 r1 r2 q2) fun d1 s3 ⟨z, H3, I3, r3, k, ez, q3⟩ => ?_
  subst ez
  cases r3
  refine wpAny_truthy_bool ?_
  cases k with
  | false => exact ite_ff ⟨H3, I3, q3⟩
  | true =>
    refine ite_tt (test_link (thn (hc.run pins s3 σ H3 _ I3 q3) fun w s4 ⟨y', H4, I4, r4, q4⟩ => ?_))
    refine thn (h2 pins s4 σ H4 y y' u w _ I4 r2 r4 q4) fun d2 s5 ⟨z', H5, I5, r5, k', ez', q5⟩ => ?_
    subst ez'
    cases r5
    refine wpAny_truthy_bool ?_
    cases k' with
    | false => exact ite_ff ⟨H5, I5, q5⟩
    | true =>
      refine ite_tt (test_last (thn (hd.run pins s5 σ H5 _ I5 q5) fun w2 s6 ⟨y2, H6, I6, r6, q6⟩ => ?_))
      refine thn (h3 pins s6 σ H6 y' y2 w w2 _ I6 r4 r6 q6) fun d3 s7 ⟨z2, H7, I7, r7, k2, ez2, q7⟩ => ?_
      subst ez2
      cases r7
      exact wpAny_truthy_bool ⟨H7, I7, q7⟩
def chn3 (g g' g'' : Z.D → Z.D → Option Bool) (fa fb fc fd : Fe) : Ft := fun env =>
  (fa env).bind fun p => (fb p.2).bind fun q => (rd q.2 (fz p.1)).bind fun d => (rd q.2 (fz q.1)).bind fun e => (g d e).bind fun r =>
    if r = true then (fc q.2).bind fun s => (rd s.2 (fz q.1)).bind fun e' => (rd s.2 (fz s.1)).bind fun h => (g' e' h).bind fun r' =>
      if r' = true then (fd s.2).bind fun t => (rd t.2 (fz s.1)).bind fun h' => (rd t.2 (fz t.1)).bind fun m => (g'' h' m).bind fun r2 => some (r2, t.2) else some (false, s.2) else some (false, q.2)
theorem pq_chain3 {o1 o2 o3 : CmpOp} {g g' g'' : Z.D → Z.D → Option Bool} {r r' r'' : R2} (h1 : OpR X (compareOp o1) r) (k1 : Op2 X.K cl (bRes g) r) (h2 : OpR X (compareOp o2) r') (k2 : Op2 X.K cl (bRes g') r') (h3 : OpR X (compareOp o3) r'') (k3 : Op2 X.K cl (bRes g'') r'')
    (ha : PE X a (tR X.K cl fa)) (hb : PE X b (tR X.K cl fb)) (hc : PE X c (tR X.K cl fc)) (hd : PE X d (tR X.K cl fd)) (hm : lastMarks [o1, o2, o3] [b, c, d] = false := by with_unfolding_all rfl) : PT X (.Compare a [o1, o2, o3] [b, c, d] pos) (tT X.K cl (chn3 g g' g'' fa fb fc fd)) := by
  refine PT_weak (pt_chain3 h1 h2 h3 ha hb hc hd hm) fun σ H Q q => ?_
  obtain ⟨pa, F, R, ad, env, rv, env', S, hf, k⟩ := q
  unfold chn3 at hf
  obtain ⟨⟨r1, e1⟩, j1, hf⟩ := Option.bind_eq_some_iff.mp hf
  obtain ⟨⟨r2, e2⟩, j2, hf⟩ := Option.bind_eq_some_iff.mp hf
  obtain ⟨d1, j3, hf⟩ := Option.bind_eq_some_iff.mp hf
  obtain ⟨d2, j4, hf⟩ := Option.bind_eq_some_iff.mp hf
  obtain ⟨rr, j5, hf⟩ := Option.bind_eq_some_iff.mp hf
  refine ⟨pa, F, R, ad, env, _, _, S, j1, fun F1 ad1 H1 x le1 S1 a1 => ?_⟩
  obtain ⟨G1, l1, T1, b1⟩ := S1.fzz a1
  refine ⟨pa, G1, R, ad1, _, _, _, T1, j2, fun F2 ad2 H2 y le2 S2 a2 => ?_⟩
  obtain ⟨G2, l2, T2, b2⟩ := S2.fzz a2
  refine k1 G2 H2 x y d1 d2 (.dat (.bl rr)) _ T2.fh (T2.read (b1.mono (le2.trans l2)) j3) (T2.read b2 j4) (by unfold bRes; rw [j5]; rfl) (T2.res fun F3 ad3 H3 v le3 S3 a3 => ?_)
  cases a3
  refine ⟨rr, rfl, ?_⟩
  cases rr with
  | false =>
    rw [if_neg Bool.false_ne_true] at hf ⊢
    cases hf
    exact k F3 ad3 H3 (((le1.trans l1).trans (le2.trans l2)).trans le3) S3
  | true =>
    rw [if_pos rfl] at hf ⊢
    obtain ⟨⟨r4, e4⟩, j6, hf⟩ := Option.bind_eq_some_iff.mp hf
    obtain ⟨d4, j7, hf⟩ := Option.bind_eq_some_iff.mp hf
    obtain ⟨d5, j8, hf⟩ := Option.bind_eq_some_iff.mp hf
    obtain ⟨r5, j9, hf⟩ := Option.bind_eq_some_iff.mp hf
    refine ⟨pa, F3, R, ad3, _, _, _, S3, j6, fun F4 ad4 H4 z le4 S4 a4 => ?_⟩
    obtain ⟨G4, l4, T4, b4⟩ := S4.fzz a4
    refine k2 G4 H4 y z d4 d5 (.dat (.bl r5)) _ T4.fh (T4.read (b2.mono ((le3.trans le4).trans l4)) j7) (T4.read b4 j8) (by unfold bRes; rw [j9]; rfl) (T4.res fun F5 ad5 H5 v le5 S5 a5 => ?_)
    cases a5
    refine ⟨r5, rfl, ?_⟩
    have lall := ((((le1.trans l1).trans (le2.trans l2)).trans le3).trans (le4.trans l4)).trans le5
    cases r5 with
    | false =>
      rw [if_neg Bool.false_ne_true] at hf ⊢
      cases hf
      exact k F5 ad5 H5 lall S5
    | true =>
      rw [if_pos rfl] at hf ⊢
      obtain ⟨⟨r6, e6⟩, j10, hf⟩ := Option.bind_eq_some_iff.mp hf
      obtain ⟨d6, j11, hf⟩ := Option.bind_eq_some_iff.mp hf
      obtain ⟨d7, j12, hf⟩ := Option.bind_eq_some_iff.mp hf
      obtain ⟨r7, j13, hf⟩ := Option.bind_eq_some_iff.mp hf
      cases hf
      refine ⟨pa, F5, R, ad5, _, _, _, S5, j10, fun F6 ad6 H6 z2 le6 S6 a6 => ?_⟩
      obtain ⟨G6, l6, T6, b6⟩ := S6.fzz a6
      refine k3 G6 H6 z z2 d6 d7 (.dat (.bl rv)) _ T6.fh (T6.read (b4.mono ((le5.trans le6).trans l6)) j11) (T6.read b6 j12) (by unfold bRes; rw [j13]; rfl) (T6.res fun F7 ad7 H7 v le7 S7 a7 => ?_)
      cases a7
      exact ⟨rv, rfl, k F7 ad7 H7 ((lall.trans (le6.trans l6)).trans le7) S7⟩
theorem pr_methC0 {c mn : Str} {k : Nat} {ps : List Str} {apos : Pos} {m : List Z.D → Option Rt} {fo : Fe} {pl : Sem Bool} (C : CalM X.prog X.w X.K X.mg X.base (cl c) mn k ps (spP X.K cl 1 m)) (hc : Cls X.K (cl c)) (hr : Room k X.A) (ho : PE X o (tR X.K cl fo))
    (ht : eval (.Call (.Attribute o mn apos) [] [] pos) X.env = (do
      let ov ← eval o X.env
      standAt apos.atName
      let (f, first) ← holding [ov] (getMethod ov mn pl)
      callWith pos f first (backTo pos (starEach [] X.env)) (backToKw pos (keywordEach [] X.env))) := by rfl) :
    PE X (.Call (.Attribute o mn apos) [] [] pos) (tR X.K cl (methS c mn m fo nilL)) := by
  obtain ⟨a, fd, G, b, hm⟩ := C.ex
  exact pr_meth (pe_meth0 ho hc hm G hr b .nil pass0 ht) tNil_of (fun a b c h => congrArg (· + 1) (nilL_len a b c h))
end
end Z

set_option Elab.async false
set_option linter.all false
set_option maxRecDepth 100000
set_option maxHeartbeats 1000000
/-! More rules for reckoning with meanings. -/
namespace Z
open PySem PySem.Spec PyProof.Rows L2
section
variable {env : En} {f fk : Fe} {d e : Z.D} {ds es : List Z.D} {i j : Int} {n : Nat} {ks : List (List Key)}
@[simp] theorem s_lt3 : lt3G (.int i) (.int j) = some (decide (i < j)) := rfl
@[simp] theorem s_ocd : (OC.dct ks ds).d = .dt ks ds := rfl
@[simp] theorem s_new : newDS env = some (.own (.dct [] []), env) := rfl
@[simp] theorem s_dg : dgG (.dt ks ds) e = (keyD e).bind fun k => (valZ ks ds k).bind fun d => some (.dat d) := rfl
@[simp] theorem s_di {b : Bool} : diG b e (.dt ks ds) = (keyD e).bind fun k => some ((valZ ks ds k).isSome != b) := rfl
@[simp] theorem s_key2 : keyD (.tup [.int i, .int j]) = some [.inl i, .inl j] := rfl
@[simp] theorem s_dctOf : dctOf env n = (match ocOf env n with | some (.dct ks ds) => some (ks, ds) | _ => none) := rfl
@[simp] theorem s_putDS : putDS n fk f env = (f env).bind fun p => (kp p.2 (fz p.1)).bind fun q => (dctOf q.2 n).bind fun _ => (fk q.2).bind fun r => (rd r.2 (fz r.1)).bind fun dk => (keyD dk).bind fun k => (dctOf r.2 n).bind fun t =>
  if t.1.length < 16777216 then some (.nx (setOC r.2 n (.dct (putZ t.1 t.2 k q.1).1 (putZ t.1 t.2 k q.1).2))) else none := rfl
@[simp] theorem s_rev : revS f env = (f env).bind fun p => (rd p.2 (fz p.1)).bind fun d => match d with
  | .lst ds => some (.own (.lst ds.reverse), p.2)
  | _ => none := rfl
@[simp] theorem s_ext : extS n f env = (lstOf env n).bind fun _ => (f env).bind fun p => (kp p.2 (fz p.1)).bind fun q => (lstOf q.2 n).bind fun ds => match q.1 with
  | .lst es => if ds.length + es.length ≤ 16777216 then some (.nx (setOC q.2 n (.lst (ds ++ es)))) else none
  | _ => none := rfl
end
end Z
namespace Z
open PySem PySem.Spec PyProof.Rows L2
/-- a comprehension whose element changes slots: I holds of what is left, what is made, the slots (its own slot empty) -/
theorem lcGo_rule {i : Nat} {f : Fe} (I : List Z.D → List Z.D → En → Prop)
    (step : ∀ d ds acc env, I (d :: ds) acc env → i < env.length ∧ ∃ rv e2 r e3, f (env.set i (some (.dat d))) = some (rv, e2) ∧ kp e2 (fz rv) = some (r, e3) ∧ I ds (acc ++ [r]) (e3.set i none)) :
    ∀ (ds acc : List Z.D) (env : En), I ds acc (env.set i none) → ∃ acc' env', lcGo (nmB i) yesT f [i] ds acc env = some (acc', env') ∧ I [] acc' env'
  | [], acc, env, h => ⟨acc, _, rfl, h⟩
  | d :: ds, acc, env, h => by
    obtain ⟨hi, rv, e2, r, e3, h1, h2, h3⟩ := step d ds acc _ h
    rw [List.set_set] at h1
    obtain ⟨acc', env', h4, h5⟩ := lcGo_rule I step ds (acc ++ [r]) e3 h3
    refine ⟨acc', env', ?_, h5⟩
    unfold lcGo
    rw [s_wipe1, s_wipe0]
    show (Option.bind (if i < (env.set i none).length then some ((env.set i none).set i (some (.dat d))) else none) _) = _
    rw [if_pos hi, Option.bind_some, List.set_set, s_yesT, Option.bind_some, if_pos rfl, h1, Option.bind_some, h2, Option.bind_some]
    exact h4
end Z
namespace Z
open PySem PySem.Spec PyProof.Rows L2
/-- a comprehension with any target, whose element changes nothing -/
theorem lcGo_mapG {gb : Fb} {f : Fe} {vs : List Nat} {env1 : En} (r : Z.D → Z.D) : ∀ (ds acc : List Z.D) (env : En), wipeE env vs = wipeE env1 vs →
    (∀ d ∈ ds, ∃ e1 rv, gb d (wipeE env1 vs) = some e1 ∧ f e1 = some (rv, e1) ∧ kp e1 (fz rv) = some (r d, e1) ∧ wipeE e1 vs = wipeE env1 vs) →
    lcGo gb yesT f vs ds acc env = some (acc ++ ds.map r, wipeE env1 vs)
  | [], acc, env, he, _ => by
    unfold lcGo
    rw [he, List.map_nil, List.append_nil]
  | d :: ds, acc, env, he, h => by
    obtain ⟨e1, rv, h1, h2, h3, h4⟩ := h d (List.mem_cons_self ..)
    unfold lcGo
    rw [he, h1, Option.bind_some, s_yesT, Option.bind_some, if_pos rfl, h2, Option.bind_some, h3, Option.bind_some]
    rw [lcGo_mapG r ds (acc ++ [r d]) e1 h4 (fun e he => h e (List.mem_cons_of_mem _ he)), List.map_cons, List.append_assoc]
    rfl
theorem lcS_mapG {fi : Fi} {gb : Fb} {f : Fe} {vs : List Nat} {env env1 : En} {ds : List Z.D} (r : Z.D → Z.D) (h1 : fi env = some (ds, env1)) (hl : ds.length ≤ 16777215) (hb : backE env1 (wipeE env1 vs) vs = env1)
    (h : ∀ d ∈ ds, ∃ e1 rv, gb d (wipeE env1 vs) = some e1 ∧ f e1 = some (rv, e1) ∧ kp e1 (fz rv) = some (r d, e1) ∧ wipeE e1 vs = wipeE env1 vs) : lcS fi gb yesT f vs env = some (.own (.lst (ds.map r)), env1) := by
  rw [s_lcS, h1, Option.bind_some, if_pos hl, lcGo_mapG r ds [] env1 rfl h, Option.bind_some, List.nil_append, hb]
end Z

set_option Elab.async false
set_option linter.all false
set_option maxRecDepth 100000
set_option maxHeartbeats 1000000
/-! len of a set comprehension of tuples of ints, as a meaning. -/
namespace Z
open PySem PySem.Spec PyProof.Rows L2
def keyT : Z.D → Option (List Int)
  | .tup ds => intsOf ds
  | _ => none
def scGo (b : Fb) (f : Fe) (vs : List Nat) : List Z.D → List (List Int) → En → Option (List (List Int) × En)
  | [], acc, env => some (acc, wipeE env vs)
  | d :: ds, acc, env => (b d (wipeE env vs)).bind fun e1 => (f e1).bind fun q => (kp q.2 (fz q.1)).bind fun r => (keyT r.1).bind fun k => scGo b f vs ds (if k ∈ acc then acc else k :: acc) r.2
def lenSetS (fi : Fi) (b : Fb) (f : Fe) (vs : List Nat) : Fe := fun env => (fi env).bind fun p => if p.1.length ≤ 4900 then (scGo b f vs p.1 [] p.2).bind fun q => some (.dat (.int (q.1.length : Nat)), backE p.2 q.2 vs) else none
section
variable {K : PySem.W.Frag} {cl : Str → Addr} {pa : Nat → Addr} {F F' R H H' : Hp} {σ : L2.St} {ad : Nat → Addr} {env env' : En}
theorem at_key {v : V} {d : Z.D} {k : List Int} (h : At K cl F v d) (e : keyT d = some k) : ∃ a, v = .ref a ∧ F a = some (.tup (k.map V.int)) := by
  cases d with
  | tup ds =>
    have e : intsOf ds = some k := e
    obtain ⟨a, vs, rfl, h, al⟩ := at_tupF h
    rw [intsOf_eq e] at al
    exact ⟨_, rfl, by rw [h, AtAll.intsV al]⟩
  | _ => cases e
/-- a set that was put aside, changed -/
theorem RS.asideSet {p : Addr} {φ : Heap → Prop} {o' : HO} (S : RS K cl pa F (upd R p (.ext φ)) H σ ad env) (hR : R p = none) : F p = none ∧ H p = some (.ext φ) ∧ (∀ j, (ocOf env j).isSome = true → ad j ≠ p) ∧ RS K cl pa F R (upd H p o') σ ad env := by
  have hF : F p = none := S.dj.out upd_same (fun _ z => nomatch z)
  have hn : ∀ j, (ocOf env j).isSome = true → ad j ≠ p := fun j hj z => by
    cases e : ocOf env j with
    | none => rw [e] at hj; cases hj
    | some u =>
      obtain ⟨_, _, h3, _⟩ := S.oc j u e
      rw [z, upd_same] at h3; cases h3
  refine ⟨hF, S.rh p _ upd_same, hn, ⟨fun b u e => ?_, fun b u e => ?_, S.len, S.dat, fun i u e => ?_, S.ne, S.par, fun b u e => ?_, fun i c ns fs e => ?_⟩⟩
  · rw [upd_ne (fun z => by subst z; rw [hF] at e; cases e)]; exact S.fh b u e
  · rw [upd_ne (fun z => by subst z; rw [hR] at e; cases e)]; exact S.rh b u (by rw [upd_ne (fun z => by subst z; rw [hR] at e; cases e)]; exact e)
  · obtain ⟨h1, h2, h3, h4⟩ := S.oc i u e
    have hne := hn i (by rw [e]; rfl)
    exact ⟨h1, h2, by rw [upd_ne hne] at h3; exact h3, h4.mono (Le.refl _) (by rw [upd_ne hne])⟩
  · exact S.dj b u (by rw [upd_ne (fun z => by subst z; rw [hR] at e; cases e)]; exact e)
  · obtain ⟨h1, dx, vs, h2, h3⟩ := S.slf i c ns fs e
    refine ⟨h1, dx, vs, ?_, h3⟩
    rw [upd_ne (fun z => by rw [z, upd_same] at h2; cases h2)] at h2
    exact h2
end
section
variable {X : Cx} {cl : Str → Addr} {pos : Pos}
/-- the word of the loop -/
structure ScW (P : Program) (w : World) (K : PySem.W.Frag) (cl : Str → Addr) (pa : Nat → Addr) (F1 R : Hp) (σ : L2.St) (D : Addr) (b : Fb) (f : Fe) (vs : List Nat) (ds : List Z.D) (res : List (List Int) × En) (F2 : Hp) (ad2 : Nat → Addr) (env2 : En) (L : List (Addr × List Int)) (acc : List (List Int)) (i m : Nat) (Hc : Hp) : Prop where
  left : m + i = ds.length
  R0 : R D = none
  le : Le F1 F2
  rs : RS K cl pa F2 R Hc (wipe σ vs) ad2 (wipeE env2 vs)
  F0 : F2 D = none
  here : Hc D = some (S.GO P w D L)
  tup : ∀ p ∈ L, F2 p.1 = some (.tup (p.2.map V.int))
  pm : (L.map (·.2)).Perm acc
  few : L.length ≤ i
  ne : ∀ j, (ocOf (wipeE env2 vs) j).isSome = true → ad2 j ≠ D
  go : scGo b f vs (ds.drop i) acc env2 = some res
/-- what len(..) of a set says -/
def tLenG (P : Program) (w : World) (K : PySem.W.Frag) (ta : TE) : TE := fun σ H Q => ta σ H fun x H1 => ∃ (D : Addr) (L : List (Addr × List Int)), x = .ref D ∧ H1 D = some (S.GO P w D L) ∧ (∀ p ∈ L, SqT K H1 p.1 (p.2.map V.int)) ∧ L.length ≤ 4900 ∧ Q (.int (L.length : Nat)) H1
theorem pe_lenG {a : Expr} {ta : TE} {p pos : Pos} (hg : Gl X "len") (hm : X.mg "len" = none) (ha : PE X a ta) (na : starEach [a] X.env = (false, eval a X.env) :: starEach [] X.env := by rfl) :
    PE X (.Call (.Name "len" p) [a] [] pos) (tLenG X.prog X.w X.K ta) := by
  refine ⟨fun pins s σ H Q I h => ?_⟩
  refine Call_ (ld_blt I hg hm PySem.boot_len ?_)
  refine PyProof.Rows.callWith_builtin1 (PyProof.Rows.args_cons (thn (ha.run pins s σ H _ I h) fun v s1 ⟨x, H1, I1, r1, D, L, ex, hD, hL, lim, q⟩ => PyProof.Rows.args_nil ?_) na) na rfl
  subst ex
  cases r1
  exact S.track_len I1 hD hL lim fun tk tk' => ⟨.int L.length, H1, I1.tok _, ⟨_, rfl⟩, q⟩
theorem lenSet_red {fi : Fi} {b : Fb} {f : Fe} {vs : List Nat} : ∀ σ H Q, tR X.K cl (lenSetS fi b f vs) σ H Q → tLenG X.prog X.w X.K (S.tSetG X.prog X.w X.K (tI X.K cl fi) (tG X.K cl vs b) (tR X.K cl f) vs) σ H Q := by
  intro σ H Q q
  obtain ⟨pa, F, R, ad, env, rv, env', S, hf, k⟩ := q
  unfold lenSetS at hf
  obtain ⟨⟨ds, e1⟩, h1, hf⟩ := Option.bind_eq_some_iff.mp hf
  dsimp only at hf
  split at hf
  · rename_i hlen
    obtain ⟨res, h2, hf⟩ := Option.bind_eq_some_iff.mp hf
    cases hf
    refine ⟨pa, F, R, ad, env, _, _, S, h1, fun F1 ad1 H1 J le1 S1 it => fun D hD => ?_⟩
    refine ⟨fun i m Hc => ∃ F2 ad2 env2 L acc, ScW X.prog X.w X.K cl pa F1 R σ D b f vs ds res F2 ad2 env2 L acc i m Hc, ⟨ds.length, F1, ad1, e1, [], [], ⟨rfl, S1.rh.fresh hD, Le.refl _, (S1.newAt hD).wiped vs, S1.fh.fresh hD, upd_same, fun p hp => (nomatch hp), List.Perm.refl _, Nat.le_refl _, fun j hj z => ?_, h2⟩⟩, fun i m Hc w => ?_⟩
    · have hj' := oc_wipe hj
      cases e : ocOf e1 j with
      | none => rw [e] at hj'; cases hj'
      | some u =>
        obtain ⟨_, _, _, q4⟩ := S1.oc j u e
        obtain ⟨ob, hb⟩ := q4.has
        rw [z, hD] at hb; cases hb
    · obtain ⟨F2, ad2, env2, L, acc, W⟩ := w
      by_cases hi' : i < ds.length
      · right
        obtain ⟨d, hd⟩ : ∃ d, ds[i]? = some d := ⟨_, List.getElem?_eq_getElem hi'⟩
        have hgo := W.go
        rw [drop_get hd] at hgo
        unfold scGo at hgo
        obtain ⟨e3, hb, hgo⟩ := Option.bind_eq_some_iff.mp hgo
        obtain ⟨⟨rr, e5⟩, hff, hgo⟩ := Option.bind_eq_some_iff.mp hgo
        obtain ⟨⟨dd, e6⟩, hk, hgo⟩ := Option.bind_eq_some_iff.mp hgo
        obtain ⟨ks, hks, hgo⟩ := Option.bind_eq_some_iff.mp hgo
        dsimp only at hgo
        refine ⟨it.go F2 Hc i W.le W.rs.fh hi', fun Hc' => ∃ F2 ad2 env2 L acc, ScW X.prog X.w X.K cl pa F1 R σ D b f vs ds res F2 ad2 env2 L acc (i + 1) (m - 1) Hc', fun H' w' => ⟨m - 1, by have := W.left; omega, w'⟩, fun x H' hy => ?_⟩
        obtain ⟨F3, g, ax⟩ := it.yld F2 Hc i x H' d W.le W.rs.fh hd hy
        have S3 := (W.rs.aside W.F0 W.R0 W.here W.ne).grow g
        refine ⟨pa, F3, _, ad2, _, d, e3, S3, ax, hb, fun F4 ad4 σ4 H4 le4 S4 hw => ⟨by rw [hw, wipe_wipe], ?_⟩⟩
        have hw4 : wipe σ4 vs = wipe σ vs := by rw [hw, wipe_wipe]
        refine ⟨pa, F4, _, ad4, e3, rr, e5, S4, hff, fun F6 ad6 H6 y le6 S6 a6 => ?_⟩
        obtain ⟨F7, l7, S7, b7⟩ := S6.fzz a6
        obtain ⟨F8, l8, S8, b8⟩ := S7.keep b7 hk
        obtain ⟨a, ey, ha⟩ := at_key b8 hks
        subst ey
        have le28 : Le F2 F8 := ((((g.le W.rs.fh).trans le4).trans le6).trans l7).trans l8
        have tup8 : ∀ p ∈ L, F8 p.1 = some (.tup (p.2.map V.int)) := fun p hp => le28 _ _ (W.tup p hp)
        obtain ⟨z1, z2, z3, _⟩ := RS.asideSet (o' := .tup []) S8 W.R0
        have fw := W.few
        refine ⟨a, ks, L, rfl, .inl (.inl (S8.fh _ _ ha)), z2, fun p hp => .inl (.inl (S8.fh _ _ (tup8 p hp))), by omega, fun L' c1 c2 => ?_⟩
        obtain ⟨_, _, _, z4⟩ := RS.asideSet (o' := _root_.S.GO X.prog X.w D L') S8 W.R0
        have z5 := z4.wiped vs
        rw [hw4] at z5
        have mem : ks ∈ L.map (·.2) ↔ ks ∈ acc := W.pm.mem_iff
        refine ⟨F8, ad6, e6, L', _, ⟨by have := W.left; omega, W.R0, W.le.trans le28, z5, z1, upd_same, ?_, ?_, ?_, fun j hj => z3 j (oc_wipe hj), hgo⟩⟩
        · intro p hp
          by_cases c : ks ∈ L.map (·.2)
          · rw [c1 c] at hp; exact tup8 p hp
          · rcases List.mem_cons.mp ((c2 c).mem_iff.mp hp) with e | e
            · rw [e]; exact ha
            · exact tup8 p e
        · by_cases c : ks ∈ L.map (·.2)
          · rw [c1 c, if_pos (mem.mp c)]; exact W.pm
          · rw [if_neg (fun z => c (mem.mpr z))]
            have z6 := (c2 c).map (·.2)
            rw [List.map_cons] at z6
            exact z6.trans (W.pm.cons ks)
        · by_cases c : ks ∈ L.map (·.2)
          · rw [c1 c]; omega
          · rw [(c2 c).length_eq, List.length_cons]; omega
      · left
        have hie : i = ds.length := by have := W.left; omega
        subst hie
        have hgo := W.go
        rw [List.drop_length] at hgo
        cases hgo
        refine ⟨it.stop F2 Hc W.le W.rs.fh, D, L, rfl, W.here, fun p hp => .inl (.inl (W.rs.fh _ _ (W.tup p hp))), by have := W.few; omega, ?_⟩
        have SB : RS X.K cl pa F2 R Hc σ ad2 (backE e1 (wipeE env2 vs) vs) := W.rs.back (fun i hi s => wipeE_none hi s) S1 W.le
        have hl : L.length = acc.length := by rw [← W.pm.length_eq, List.length_map]
        rw [hl]
        exact k F2 ad2 Hc (.int (acc.length : Nat)) (le1.trans W.le) SB (.int _)
  · cases hf
theorem pr_lenSet {elt tg iter : Expr} {scope : Scope} {own : List (Str × Nat)} {fi : Fi} {b : Fb} {f : Fe} {p q : Pos} (hc : X.calm = true) (hu : X.A.units + 64 < cLine) (hN : X.N.Nodup) (hg1 : Gl X "len") (hm1 : X.mg "len" = none) (hi : PI X tg iter (tI X.K cl fi)) (ok : BlkOk X.N X.env.scope scope own)
    (hg : ∀ (s : Shared) (H : Hp) (C : Addr) (cs : List (Str × Addr)) (fp : List Addr), PG (X.blk s H scope (compEnvC scope cs C X.env) fp) tg (tG X.K cl (own.map (·.2)) b))
    (he : ∀ (s : Shared) (H : Hp) (C : Addr) (cs : List (Str × Addr)) (fp : List Addr), PE (X.blk s H scope (compEnvC scope cs C X.env) fp) elt (tR X.K cl f))
    (hs : ∀ x, foldedSetIterable iter X.env x = pure x := by intro _; rfl)
    (na : starEach [Expr.SetComp elt [⟨tg, iter, [], 0⟩] scope pos] X.env = (false, eval (Expr.SetComp elt [⟨tg, iter, [], 0⟩] scope pos) X.env) :: starEach [] X.env := by rfl) :
    PE X (.Call (.Name "len" p) [.SetComp elt [⟨tg, iter, [], 0⟩] scope pos] [] q) (tR X.K cl (lenSetS fi b f (own.map (·.2)))) :=
  PE_weak (pe_lenG hg1 hm1 (S.comp_sets hc hu hN hi ok hg he hs) na) lenSet_red
end
end Z

set_option Elab.async false
set_option linter.all false
set_option maxRecDepth 100000
set_option maxHeartbeats 1000000
/-! Dicts keyed by tuples of ints: get, display, dict(pairs), keys. -/
namespace Z
open PySem PySem.Spec PyProof.Rows L2
section
variable {X : Cx} {K : PySem.W.Frag} {cl : Str → Addr} {F H : Hp}
theorem isD_dt {a : Addr} {kvs : List (List Key × V)} (h : H a = some (.dT kvs)) : IsD H a := .inr ⟨kvs, .inl h⟩
/-! ### get -/
def dtOf : Z.D → Option (List (List Key) × List Z.D)
  | .dt ks ds => some (ks, ds)
  | _ => none
theorem dtOf_eq {d : Z.D} {t : List (List Key) × List Z.D} (h : dtOf d = some t) : d = .dt t.1 t.2 := by
  cases d with
  | dt ks ds => cases h; rfl
  | _ => cases h
theorem intOf_eq {d : Z.D} {i : Int} (h : intOf d = some i) : d = .int i := by
  cases d with
  | int j => cases h; rfl
  | _ => cases h
def get1S (fo fe : Fe) : Fe := fun env => (fo env).bind fun p => (rd p.2 (fz p.1)).bind fun d0 => (dtOf d0).bind fun _ => (fe p.2).bind fun q => (rd q.2 (fz p.1)).bind fun d1 => (rd q.2 (fz q.1)).bind fun dk => (dtOf d1).bind fun t => (keyD dk).bind fun k => some (.dat ((valZ t.1 t.2 k).getD .non), q.2)
def get2S (fo fe fx : Fe) : Fe := fun env => (fo env).bind fun p => (rd p.2 (fz p.1)).bind fun d0 => (dtOf d0).bind fun _ => (fe p.2).bind fun q => (fx q.2).bind fun r => (rd r.2 (fz p.1)).bind fun d1 => (rd r.2 (fz q.1)).bind fun dk => (rd r.2 (fz r.1)).bind fun dx => (dtOf d1).bind fun t => (keyD dk).bind fun k => (intOf dx).bind fun i => some (.dat ((valZ t.1 t.2 k).getD (.int i)), r.2)
theorem valZ_opt {vs : List V} {ks : List (List Key)} {ds : List Z.D} {k : List Key} {v : V} {d : Z.D} (al : AtAll K cl F vs ds) (hl : ks.length = vs.length) (hd : At K cl F v d) : At K cl F ((valZ ks vs k).getD v) ((valZ ks ds k).getD d) := by
  obtain ⟨h1, h2⟩ := valZ_at (k := k) al hl
  cases e : valZ ks ds k with
  | none =>
    rw [e] at h1
    cases e2 : valZ ks vs k with
    | none => exact hd
    | some w => rw [e2] at h1; cases h1
  | some d' =>
    obtain ⟨w, e2, e3⟩ := h2 d' e
    rw [e2]; exact e3
theorem pr_get1 {o e : Expr} {apos cpos : Pos} {fo fe : Fe} (hu : X.A.units + 64 < cLine) (ho : PE X o (tR X.K cl fo)) (he : PE X e (tR X.K cl fe)) (m : M1 X o "get" apos e cpos) : PE X (.Call (.Attribute o "get" apos) [e] [] cpos) (tR X.K cl (get1S fo fe)) := by
  refine PE_weak (pe_dget1 (by omega) ho he m) fun σ H Q q => ?_
  obtain ⟨pa, F, R, ad, env, rv, env', S, hf, k⟩ := q
  unfold get1S at hf
  obtain ⟨⟨r1, e1⟩, h1, hf⟩ := Option.bind_eq_some_iff.mp hf
  obtain ⟨d0, h2, hf⟩ := Option.bind_eq_some_iff.mp hf
  obtain ⟨t0, h2', hf⟩ := Option.bind_eq_some_iff.mp hf
  obtain ⟨⟨r3, e3⟩, h3, hf⟩ := Option.bind_eq_some_iff.mp hf
  obtain ⟨d1, h4, hf⟩ := Option.bind_eq_some_iff.mp hf
  obtain ⟨dk, h5, hf⟩ := Option.bind_eq_some_iff.mp hf
  obtain ⟨⟨ks, ds⟩, h4', hf⟩ := Option.bind_eq_some_iff.mp hf
  obtain ⟨kk, h6, hf⟩ := Option.bind_eq_some_iff.mp hf
  cases hf
  rw [dtOf_eq h2'] at h2
  rw [dtOf_eq h4'] at h4
  · skip
    refine ⟨pa, F, R, ad, env, r1, e1, S, h1, fun F1 ad1 H1 v l S1 a1 => ?_⟩
    obtain ⟨F2, l2, S2, a2⟩ := S1.fzz a1
    obtain ⟨a, vs0, rfl, z1, _⟩ := at_dt (S2.read a2 h2)
    refine ⟨a, rfl, isD_dt z1, pa, F2, R, ad1, e1, r3, _, S2, h3, fun F3 ad3 H3 u l3 S3 a3 => ?_⟩
    obtain ⟨F4, l4, S4, a4⟩ := S3.fzz a3
    obtain ⟨b, rfl, eb⟩ := key_at S4.fh (S4.read a4 h5) h6
    obtain ⟨a', vs, ea, z2, z3, z4⟩ := at_dt (S4.read (a2.mono (l3.trans l4)) h4)
    cases ea
    refine ⟨valZ ks vs kk, .inr ⟨_, kk, b, .inl z2, rfl, eb, rfl⟩, ?_⟩
    exact k F4 ad3 H3 _ (((l.trans l2).trans l3).trans l4) S4 (valZ_opt z4 z3 .non)
theorem pr_get2 {o e f : Expr} {apos cpos : Pos} {fo fe fx : Fe} (hu : X.A.units + 64 < cLine) (ho : PE X o (tR X.K cl fo)) (he : PE X e (tR X.K cl fe)) (hx : PE X f (tR X.K cl fx)) (m : M2 X o "get" apos e f cpos) : PE X (.Call (.Attribute o "get" apos) [e, f] [] cpos) (tR X.K cl (get2S fo fe fx)) := by
  refine PE_weak (pe_dget2 (by omega) ho he hx m) fun σ H Q q => ?_
  obtain ⟨pa, F, R, ad, env, rv, env', S, hf, k⟩ := q
  unfold get2S at hf
  obtain ⟨⟨r1, e1⟩, h1, hf⟩ := Option.bind_eq_some_iff.mp hf
  obtain ⟨d0, h2, hf⟩ := Option.bind_eq_some_iff.mp hf
  obtain ⟨t0, h2', hf⟩ := Option.bind_eq_some_iff.mp hf
  obtain ⟨⟨r3, e3⟩, h3, hf⟩ := Option.bind_eq_some_iff.mp hf
  obtain ⟨⟨r4, e4⟩, h3', hf⟩ := Option.bind_eq_some_iff.mp hf
  obtain ⟨d1, h4, hf⟩ := Option.bind_eq_some_iff.mp hf
  obtain ⟨dk, h5, hf⟩ := Option.bind_eq_some_iff.mp hf
  obtain ⟨dx, h5', hf⟩ := Option.bind_eq_some_iff.mp hf
  obtain ⟨⟨ks, ds⟩, h4', hf⟩ := Option.bind_eq_some_iff.mp hf
  obtain ⟨kk, h6, hf⟩ := Option.bind_eq_some_iff.mp hf
  obtain ⟨i, h7, hf⟩ := Option.bind_eq_some_iff.mp hf
  cases hf
  rw [dtOf_eq h2'] at h2
  rw [dtOf_eq h4'] at h4
  rw [intOf_eq h7] at h5'
  · skip
    refine ⟨pa, F, R, ad, env, r1, e1, S, h1, fun F1 ad1 H1 v l S1 a1 => ?_⟩
    obtain ⟨F2, l2, S2, a2⟩ := S1.fzz a1
    obtain ⟨a, vs0, rfl, z1, _⟩ := at_dt (S2.read a2 h2)
    refine ⟨a, rfl, isD_dt z1, pa, F2, R, ad1, e1, r3, _, S2, h3, fun F3 ad3 H3 u l3 S3 a3 => ?_⟩
    obtain ⟨F4, l4, S4, a4⟩ := S3.fzz a3
    refine ⟨pa, F4, R, ad3, e3, r4, _, S4, h3', fun F5 ad5 H5 z l5 S5 a5 => ?_⟩
    obtain ⟨F6, l6, S6, a6⟩ := S5.fzz a5
    obtain ⟨b, rfl, eb⟩ := key_at S6.fh (S6.read (a4.mono (l5.trans l6)) h5) h6
    obtain ⟨a', vs, ea, z2, z3, z4⟩ := at_dt (S6.read (a2.mono (((l3.trans l4).trans l5).trans l6)) h4)
    cases ea
    have hz := S6.read a6 h5'
    cases hz
    refine ⟨valZ ks vs kk, .inr ⟨_, kk, b, .inl z2, rfl, eb, rfl⟩, ?_⟩
    exact k F6 ad5 H5 _ (((((l.trans l2).trans l3).trans l4).trans l5).trans l6) S6 (valZ_opt z4 z3 (.int i))
/-- what was put aside, changed -/
theorem RS.asideG {pa : Nat → Addr} {R : Hp} {σ : L2.St} {ad : Nat → Addr} {env : En} {p : Addr} {u o' : HO} (S : RS K cl pa F (upd R p u) H σ ad env) (hR : R p = none) (n1 : ∀ xs, u ≠ .tup xs) (n2 : ∀ c dx fs, u ≠ .ins c dx fs) : F p = none ∧ H p = some u ∧ (∀ j, (ocOf env j).isSome = true → ad j ≠ p) ∧ RS K cl pa F R (upd H p o') σ ad env := by
  have hF : F p = none := S.dj.out upd_same n1
  have hn : ∀ j, (ocOf env j).isSome = true → ad j ≠ p := fun j hj z => by
    cases e : ocOf env j with
    | none => rw [e] at hj; cases hj
    | some u =>
      obtain ⟨_, _, h3, _⟩ := S.oc j u e
      rw [z, upd_same] at h3; cases h3
  refine ⟨hF, S.rh p _ upd_same, hn, ⟨fun b u e => ?_, fun b u e => ?_, S.len, S.dat, fun i u e => ?_, S.ne, S.par, fun b u e => ?_, fun i c ns fs e => ?_⟩⟩
  · rw [upd_ne (fun z => by subst z; rw [hF] at e; cases e)]; exact S.fh b u e
  · rw [upd_ne (fun z => by subst z; rw [hR] at e; cases e)]; exact S.rh b u (by rw [upd_ne (fun z => by subst z; rw [hR] at e; cases e)]; exact e)
  · obtain ⟨h1, h2, h3, h4⟩ := S.oc i u e
    have hne := hn i (by rw [e]; rfl)
    exact ⟨h1, h2, by rw [upd_ne hne] at h3; exact h3, h4.mono (Le.refl _) (by rw [upd_ne hne])⟩
  · exact S.dj b u (by rw [upd_ne (fun z => by subst z; rw [hR] at e; cases e)]; exact e)
  · obtain ⟨h1, dx, vs, h2, h3⟩ := S.slf i c ns fs e
    refine ⟨h1, dx, vs, ?_, h3⟩
    rw [upd_ne (fun z => by rw [z, upd_same] at h2; exact n2 _ _ _ (Option.some.inj h2))] at h2
    exact h2
/-! ### a display of one pair -/
def dispS (fk f : Fe) : Fe := fun env => (fk env).bind fun p => (f p.2).bind fun q => (rd q.2 (fz p.1)).bind fun dk => (kp q.2 (fz q.1)).bind fun r => (keyD dk).bind fun k => some (.own (.dct [k] [r.1]), r.2)
def tDispT (tk tv : TE) : TE := fun σ H Q => ∀ p, H p = none → tk σ (upd H p (.dT [])) fun x H1 => tv σ H1 fun y H2 => H2 p = some (.dT []) ∧ ∃ (b : Addr) (k : List Key), x = .ref b ∧ H2 b = some (.tup (k.map kV)) ∧ Q (.ref p) (upd H2 p (.dT [(k, y)]))
theorem pe_dispT {k v : Expr} {pos : Pos} {tk tv : TE} (hu : X.A.units + 64 < cLine) (hk : PE X k tk) (hv : PE X v tv) : PE X (.Dict [some k] [v] pos) (tDispT tk tv) := by
  refine ⟨fun pins s σ H Q I q => ?_⟩
  have hn := I.hok.fresh (Nat.le_refl s.heap.objs.size)
  have I1 := I.laid (a := s.heap.objs.size) (o := .dT []) (h' := s.heap.push { cls := .type "dict", data := .dict #[] }) (t' := s.toks) (fun _ _ q => Heap.get?_push_of_some _ q) (Nat.le_refl _) (dt_empty s.heap I.big)
  have room : (tupleKind (mixKind X.prog X.w)).room X.A := by show X.A.units < cLine; omega
  rw [arm_eval_Dict, show (evalEachOpt [some k] X.env).zip ((evalEach [v] X.env).map fun v => do let x ← v; standAt pos; pure x) = (pairTrees [some k] [v] X.env pos).map fun p => (some p.1, p.2) from rfl, dictDisplay_pairs (pairTrees [some k] [v] X.env pos) (by simp [pairTrees]) (by simp [pairTrees])]
  refine wpAny_bind (wpAny_standAt (wpAny_bind (wpAny_subDictH (A := X.A) (knd := tupleKind (mixKind X.prog X.w)) room (by simp [pairTrees]) ?_)))
  refine pairTrees_cons_walk (thn (hk.run pins _ σ _ _ I1 (q _ hn)) fun u s1 ⟨x, H1, I2, rx, q1⟩ => thn (hv.run pins s1 σ H1 _ I2 q1) fun w2 s2 ⟨y, H2, I3, ry, hp, b, kk, ex, hb, q2⟩ => pairTrees_nil_walk ?_)
  subst ex
  cases (show u = Value.ref b from rx)
  obtain ⟨z, hd, xs, rel, dd⟩ := dt_of I3.hok hp
  cases rel
  refine ⟨[(kk, b, w2)], ⟨rfl, rfl, key_of I3.hok hb, trivial⟩, dd, fun h' tk dd' hs => ?_⟩
  obtain ⟨ob, es, ep, hq, g2, g3, g4, _, g5⟩ := dd'
  refine wpAny_pure ⟨.ref s.heap.objs.size, _, ?_, rfl, q2⟩
  have key : ObjOk X.prog X.w (upd H2 s.heap.objs.size (.dT [(kk, y)])) h' s.heap.objs.size (.dT [(kk, y)]) := by
    refine ⟨by simp [sizeLine_eq], hd, storedAllH [] [(kk, b, w2)], .cons ⟨rfl, ?_, ry⟩ .nil, ob, es, ep, hq, g2, g3, g4, g5⟩
    show upd H2 s.heap.objs.size (.dT [(kk, y)]) b = _
    rw [upd_ne (ne_of hb hp (fun z => nomatch z))]
    exact hb
  exact d_write I3 (by rw [hp]; exact True.intro) hs ⟨ob, hq⟩ key
theorem pr_disp {k v : Expr} {pos : Pos} {fk f : Fe} (hu : X.A.units + 64 < cLine) (hk : PE X k (tR X.K cl fk)) (hv : PE X v (tR X.K cl f)) : PE X (.Dict [some k] [v] pos) (tR X.K cl (dispS fk f)) := by
  refine PE_weak (pe_dispT hu hk hv) fun σ H Q q => fun p hp => ?_
  obtain ⟨pa, F, R, ad, env, rv, env', S, hf, kq⟩ := q
  unfold dispS at hf
  obtain ⟨⟨r1, e1⟩, h1, hf⟩ := Option.bind_eq_some_iff.mp hf
  obtain ⟨⟨r2, e2⟩, h2, hf⟩ := Option.bind_eq_some_iff.mp hf
  obtain ⟨dk, h3, hf⟩ := Option.bind_eq_some_iff.mp hf
  obtain ⟨⟨d, e3⟩, h4, hf⟩ := Option.bind_eq_some_iff.mp hf
  obtain ⟨kk, h5, hf⟩ := Option.bind_eq_some_iff.mp hf
  cases hf
  -- the new dict stands aside meanwhile
  have SA : RS X.K cl pa F (upd R p (.dT [])) (upd H p (.dT [])) σ ad env := (S.newAt hp).aside (S.fh.fresh hp) (S.rh.fresh hp) upd_same (fun j hj z => by
    cases e : ocOf env j with
    | none => rw [e] at hj; cases hj
    | some u =>
      obtain ⟨_, _, _, q4⟩ := S.oc j u e
      obtain ⟨ob, hb⟩ := q4.has
      rw [z, hp] at hb; cases hb)
  refine ⟨pa, F, _, ad, env, r1, e1, SA, h1, fun F1 ad1 H1 x l1 S1 a1 => ?_⟩
  obtain ⟨F2, l2, S2, a2⟩ := S1.fzz a1
  refine ⟨pa, F2, _, ad1, e1, r2, e2, S2, h2, fun F3 ad3 H3 y l3 S3 a3 => ?_⟩
  obtain ⟨F4, l4, S4, a4⟩ := S3.fzz a3
  obtain ⟨b, rfl, eb⟩ := key_at S4.fh (S4.read (a2.mono (l3.trans l4)) h3) h5
  obtain ⟨F5, l5, S5, a5⟩ := S4.keep a4 h4
  have hR : R p = none := S.rh.fresh hp
  have hH : H3 p = some (.dT []) := S5.rh _ _ upd_same
  refine ⟨hH, b, kk, rfl, eb, ?_⟩
  obtain ⟨z1, _, z3, z4⟩ := RS.asideG (o' := .dT [(kk, y)]) S5 hR (fun _ z => nomatch z) (fun _ _ _ z => nomatch z)
  exact kq F5 ad3 _ _ ((((l1.trans l2).trans l3).trans l4).trans l5) z4 ⟨p, rfl, z1, hR, ⟨[y], upd_same, rfl, .cons a5 .nil⟩, z3⟩
end
end Z

set_option Elab.async false
set_option linter.all false
set_option maxRecDepth 100000
set_option maxHeartbeats 1000000
/-! tuple(list) as a tuple without dict; dict of pairs. -/
namespace Z
open PySem PySem.Spec PyProof.Rows L2
section
variable {X : Cx} {K : PySem.W.Frag} {cl : Str → Addr} {F H : Hp}
/-! ### tuple(list), known to have no dict -/
theorem call_tupleP : CallR X (.type "tuple") (fun xs H Q => ∃ p ys, xs = [.ref p] ∧ SqL X.K H p ys ∧ ∀ l ob, H l = none → ob.dict = none → Q (.ref l) (upd H l (.frz ob (.tup ys)))) := by
  intro pins s σ H xs us Q I r h
  obtain ⟨p, ys, rfl, hq, q⟩ := h
  obtain ⟨u, rfl, rx⟩ := vals1 r
  cases rx
  obtain ⟨its, r', pl, hz⟩ := I.list hq
  have hlen := r'.length
  refine call_tuple_list pl.isList (fun h' kp => ?_) (by simp only [List.size_toArray] <;> omega)
  have I1 : Inv X pins σ H { s with heap := h' } := I.kept (t' := s.toks) kp
  have at2 : (h'.push { cls := .type "tuple", data := .seq its.toArray }).get? h'.objs.size = some { cls := .type "tuple", data := .seq its.toArray } := Heap.get?_push_size _ rfl
  exact ⟨.ref h'.objs.size, _, I1.laid (t' := s.toks) (o := .frz { cls := .type "tuple", data := .seq its.toArray } (.tup ys)) (fun b o e => Heap.get?_push_of_some _ e) (Nat.le_refl _) ⟨at2, hz, its, r', ⟨_, at2, rfl, _, rfl⟩⟩, rfl, q _ _ (I1.hok.fresh (Nat.le_refl _)) rfl⟩
def tuplePG : List Z.D → Option Rv
  | [.lst ds] => some (.dat (.ptup ds))
  | _ => none
theorem tupleP_ok : OpL K cl tuplePG (fun xs H Q => ∃ p ys, xs = [.ref p] ∧ SqL K H p ys ∧ ∀ l ob, H l = none → ob.dict = none → Q (.ref l) (upd H l (.frz ob (.tup ys)))) := by
  intro F H xs ds rv Q le hx hg res
  unfold tuplePG at hg
  split at hg
  · cases hg
    obtain ⟨v, rfl, h⟩ := pair1 hx
    obtain ⟨a, vs, rfl, e, al⟩ := h
    exact ⟨a, vs, rfl, SqL.of e, fun l ob hl hd => res _ _ _ (.fr l _ hl) (.ptup upd_same hd (al.mono (Le.put (le.fresh hl))))⟩
  · cases hg
/-! ### dict of pairs -/
def foldK (kvs : List (List Key × V)) : List (List Key × V) := kvs.foldl (fun acc kv => putK acc kv.1 kv.2) []
/-- (pair, key's object, value, key) -/
abbrev PK := Addr × Addr × V × List Key
def rDictT : List V → Hp → VK → Prop := fun xs H Q => ∃ (a : Addr) (ob : PySem.Obj) (L : List PK), xs = [.ref a] ∧ H a = some (.frz ob (.tup (L.map fun q => .ref q.1))) ∧ ob.dict = none ∧
  (∀ q ∈ L, H q.1 = some (.tup [.ref q.2.1, q.2.2.1]) ∧ H q.2.1 = some (.tup (q.2.2.2.map kV))) ∧ L.length ≤ 16777216 ∧ ∀ d, H d = none → Q (.ref d) (upd H d (.dT (foldK (L.map fun q => (q.2.2.2, q.2.2.1)))))
theorem lift_all {α β : Type} {Pr : α → β → Prop} : ∀ (L : List α), (∀ x ∈ L, ∃ w, Pr x w) → ∃ ys : List (α × β), ys.map Prod.fst = L ∧ ∀ y ∈ ys, Pr y.1 y.2
  | [], _ => ⟨[], rfl, fun y hy => nomatch hy⟩
  | x :: L, h => by
    obtain ⟨w, hw⟩ := h x List.mem_cons_self
    obtain ⟨ys, e, hy⟩ := lift_all L fun z hz => h z (List.mem_cons_of_mem _ hz)
    exact ⟨(x, w) :: ys, by rw [List.map_cons, e], fun y hm => (List.mem_cons.mp hm).elim (fun z => by rw [z]; exact hw) (hy y)⟩
theorem kt_fold {H : Hp} : ∀ (ys : List (PK × Value)), (∀ y ∈ ys, H y.1.2.1 = some (.tup (y.1.2.2.2.map kV)) ∧ RelV y.1.2.2.1 y.2) → ∀ (kvs : List (List Key × V)) (xs : List (List Key × Addr × Value)), KT H kvs xs →
    KT H ((ys.map fun y => (y.1.2.2.2, y.1.2.2.1)).foldl (fun acc kv => putK acc kv.1 kv.2) kvs) (storedAllH xs (ys.map fun y => (y.1.2.2.2, y.1.2.1, y.2)))
  | [], _, _, _, r => r
  | y :: ys, h, kvs, xs, r => by
    obtain ⟨h1, h2⟩ := h y List.mem_cons_self
    exact kt_fold ys (fun z hz => h z (List.mem_cons_of_mem _ hz)) _ _ (r.put y.1.2.2.2 h1 h2)
theorem foldK_len : ∀ (kvs acc : List (List Key × V)), (kvs.foldl (fun acc kv => putK acc kv.1 kv.2) acc).length ≤ acc.length + kvs.length
  | [], acc => Nat.le_refl _
  | p :: r, acc => by
    have h1 := foldK_len r (putK acc p.1 p.2)
    have h2 := length_putK acc p.1 p.2
    show (r.foldl _ (putK acc p.1 p.2)).length ≤ _
    rw [List.length_cons]; omega
theorem call_dictT (hc : X.calm = true) (hu : X.A.units + 64 < cLine) : CallR X (.type "dict") rDictT := by
  intro pins s σ H xs us Q I r h
  obtain ⟨a, ob, L, rfl, ha, hd, hL, hlen, q⟩ := h
  obtain ⟨u, rfl, rx⟩ := vals1 r
  cases rx
  have hob : s.heap.get? a = some ob := (I.hok a _ ha).1
  obtain ⟨its, rv, pl, hz⟩ := I.tuple (sq_frz (K := X.K) ha)
  have hits : its = L.map fun q => Value.ref q.1 := by
    have key : ∀ (L : List PK) (its : List Value), Vals (L.map fun q => V.ref q.1) its → its = L.map fun q => Value.ref q.1 := by
      intro L
      induction L with
      | nil => intro its r; cases r; rfl
      | cons x L ih =>
        intro its r
        rw [List.map_cons] at r
        cases r with
        | cons r1 r2 =>
          cases r1
          rw [ih _ r2]; rfl
    exact key L its rv
  obtain ⟨ys, ey, hy⟩ := lift_all (Pr := fun (q : PK) (w : Value) => RelV q.2.2.1 w ∧ s.heap.IsTuple q.1 #[.ref q.2.1, w]) L fun q hq => by
    obtain ⟨it2, r2, p2, _⟩ := I.tuple (SqT.of (hL q hq).1)
    cases r2 with
    | cons g1 g2 =>
      cases g2 with
      | cons g3 g4 =>
        cases g4
        cases g1
        exact ⟨_, g3, p2⟩
  subst ey
  obtain ⟨Ts, hTs⟩ : ∃ Ts : Nat → Addr, ∀ j y, ys[j]? = some y → Ts j = y.1.1 := ⟨fun j => (ys[j]?.map fun y => y.1.1).getD 0, fun j y e => by simp only [e]; rfl⟩
  have hLy : ∀ y ∈ ys, H y.1.1 = some (.tup [.ref y.1.2.1, y.1.2.2.1]) ∧ H y.1.2.1 = some (.tup (y.1.2.2.2.map kV)) := fun y hm => hL y.1 (List.mem_map.mpr ⟨y, hm, rfl⟩)
  rw [List.length_map] at hlen
  obtain ⟨o1, ho1, hcl, n1, hdat⟩ := pl
  have eo : o1 = ob := Option.some.inj (ho1.symm.trans hob)
  subst eo
  have hits2 : ∀ (j : Nat) (y : PK × Value), ys[j]? = some y → its.toArray[j]? = some (Value.ref y.1.1) := fun j y e => by
    rw [hits, List.getElem?_toArray, List.getElem?_map, List.getElem?_map, e]
    rfl
  have pits : PairItems s.heap its.toArray Ts (ys.map fun y => (Value.ref y.1.2.1, y.2)) := by
    refine ⟨by rw [hits]; simp, fun j k v e => ?_⟩
    rw [List.getElem?_map] at e
    cases ej : ys[j]? with
    | none => rw [ej] at e; cases e
    | some y =>
      rw [ej] at e
      cases e
      exact ⟨by rw [hTs j y ej]; exact hits2 j y ej, .inl (by rw [hTs j y ej]; exact (hy y (List.mem_of_getElem? ej)).2)⟩
  have room : (tupleKind (mixKind X.prog X.w)).room X.A.in1.in1 := tupleKind_room_in1 (knd := mixKind X.prog X.w) (A := X.A.in1) (by show X.A.units + 1 + 1 < cLine; omega)
  refine call_dict_pairsH (A := X.A) (knd := tupleKind (mixKind X.prog X.w)) (ps := ys.map fun y => (y.1.2.2.2, y.1.2.1, y.2)) (PairArg.tuple a its.toArray Ts (ys.map fun y => (Value.ref y.1.2.1, y.2))) (I.ok.hd hc) room ⟨⟨o1, n1, hob, hcl, hd, hdat⟩, pits⟩ ⟨by simp, fun i key v e => ?_⟩ (fun h' kp x hx => ?_) (by rw [List.length_map, sizeLine_eq]; omega) fun h' tk dd kp => ?_
  · have e : (ys.map fun y => (Value.ref y.1.2.1, y.2))[i]? = some (key, v) := e
    rw [List.getElem?_map] at e
    cases ei : ys[i]? with
    | none => rw [ei] at e; cases e
    | some y =>
      rw [ei] at e
      cases e
      exact ⟨y.1.2.2.2, y.1.2.1, by rw [List.getElem?_map, ei]; rfl, rfl⟩
  · obtain ⟨y, hm, rfl⟩ := List.mem_map.mp hx
    obtain ⟨o, items, n, h1, h2⟩ := key_of (P := X.prog) (w := X.w) I.hok (hLy y hm).2
    exact ⟨o, items, n, kp _ _ (Nat.ne_of_lt (Heap.lt_size h1)) (by simp) h1, h2⟩
  · obtain ⟨od, es, ep, g1, g2, g3, g4, _, g5⟩ := dd
    have hn : H s.heap.objs.size = none := I.hok.fresh (Nat.le_refl _)
    have kt : KT (upd H s.heap.objs.size (.dT (foldK (ys.map fun y => (y.1.2.2.2, y.1.2.2.1))))) (foldK (ys.map fun y => (y.1.2.2.2, y.1.2.2.1))) (storedAllH [] (ys.map fun y => (y.1.2.2.2, y.1.2.1, y.2))) :=
      kt_fold ys (fun y hm => ⟨by rw [upd_ne (ne_of_none (hLy y hm).2 hn)]; exact (hLy y hm).2, (hy y hm).1⟩) [] [] .nil
    have ln := foldK_len (ys.map fun y => (y.1.2.2.2, y.1.2.2.1)) []
    rw [List.length_nil, List.length_map] at ln
    have obj : ObjOk X.prog X.w (upd H s.heap.objs.size (.dT (foldK (ys.map fun y => (y.1.2.2.2, y.1.2.2.1))))) h' s.heap.objs.size (.dT (foldK (ys.map fun y => (y.1.2.2.2, y.1.2.2.1)))) :=
      ⟨by rw [sizeLine_eq]; unfold foldK; omega, beq_eq_false_iff_ne.mpr (Ne.symm (Nat.ne_of_lt I.big)), _, kt, od, es, ep, g1, g2, g3, g4, g5⟩
    have I2 := I.laid (a := s.heap.objs.size) (t' := tk) (fun b o e => kp b o (by simp) e) (Nat.le_refl _) obj
    have q' := q s.heap.objs.size hn
    rw [List.map_map] at q'
    exact ⟨.ref s.heap.objs.size, _, I2, rfl, q'⟩
/-- the pairs of data -/
def prsOf : List Z.D → Option (List (List Key × Z.D))
  | [] => some []
  | .tup [k, d] :: r => (keyD k).bind fun kk => (prsOf r).bind fun ps => some ((kk, d) :: ps)
  | _ => none
def foldZ {α : Type} (ps : List (List Key × α)) : List (List Key) × List α := ps.foldl (fun t p => putZ t.1 t.2 p.1 p.2) ([], [])
def dictTG : List Z.D → Option Rv
  | [.ptup ds] => if ds.length ≤ 16777216 then (prsOf ds).bind fun ps => some (.own (.dct (foldZ ps).1 (foldZ ps).2)) else none
  | _ => none
theorem prs_at (le : Le F H) : ∀ {ds : List Z.D} {vs : List V} {ps : List (List Key × Z.D)}, AtAll K cl F vs ds → prsOf ds = some ps →
    ∃ L : List PK, vs = (L.map fun q => .ref q.1) ∧ (∀ q ∈ L, H q.1 = some (.tup [.ref q.2.1, q.2.2.1]) ∧ H q.2.1 = some (.tup (q.2.2.2.map kV))) ∧ Paired (fun (q : PK) p => q.2.2.2 = p.1 ∧ At K cl F q.2.2.1 p.2) L ps := by
  intro ds
  induction ds with
  | nil => intro vs ps al e; cases e; cases al; exact ⟨[], rfl, (fun q hq => nomatch hq), .nil⟩
  | cons d r ih =>
    intro vs ps al e
    unfold prsOf at e
    split at e
    · rename_i h; cases h
    · rename_i k d' r' h
      cases h
      obtain ⟨kk, e1, e⟩ := Option.bind_eq_some_iff.mp e
      obtain ⟨ps', e2, e⟩ := Option.bind_eq_some_iff.mp e
      cases e
      cases al with
      | cons a t =>
        obtain ⟨p, ws, rfl, g1, g2⟩ := at_tupF a
        cases g2 with
        | cons b1 b2 =>
          cases b2 with
          | cons c1 c2 =>
            cases c2
            obtain ⟨b, rfl, eb⟩ := key_at le (AtT.of le b1) e1
            obtain ⟨L, q1, q2, q3⟩ := ih t e2
            refine ⟨(p, b, _, kk) :: L, by rw [List.map_cons, ← q1], fun q hq => ?_, .cons ⟨rfl, c1⟩ q3⟩
            rcases List.mem_cons.mp hq with z | z
            · rw [z]; exact ⟨le _ _ g1, eb⟩
            · exact q2 q z
    · cases e
theorem fold_zip : ∀ {L : List PK} {ps : List (List Key × Z.D)} (ks : List (List Key)) (vs : List V) (ds : List Z.D), Paired (fun (q : PK) p => q.2.2.2 = p.1 ∧ At K cl F q.2.2.1 p.2) L ps → ks.length = vs.length → AtAll K cl F vs ds →
    ∃ vs', (L.map fun q => (q.2.2.2, q.2.2.1)).foldl (fun acc kv => putK acc kv.1 kv.2) (ks.zip vs) = (ps.foldl (fun t p => putZ t.1 t.2 p.1 p.2) (ks, ds)).1.zip vs' ∧ (ps.foldl (fun t p => putZ t.1 t.2 p.1 p.2) (ks, ds)).1.length = vs'.length ∧ AtAll K cl F vs' (ps.foldl (fun t p => putZ t.1 t.2 p.1 p.2) (ks, ds)).2
  | _, _, ks, vs, ds, .nil, hl, al => ⟨vs, rfl, hl, al⟩
  | q :: L, p :: ps, ks, vs, ds, .cons h t, hl, al => by
    obtain ⟨h1, h2⟩ := h
    have e1 := putK_z (k := q.2.2.2) (v := q.2.2.1) hl
    have e2 := putZ_len (k := q.2.2.2) (x := q.2.2.1) hl
    have e3 : (putZ ks vs q.2.2.2 q.2.2.1).1 = (putZ ks ds p.1 p.2).1 := by rw [h1]; exact putZ_fst
    obtain ⟨vs', g1, g2, g3⟩ := fold_zip (putZ ks ds p.1 p.2).1 (putZ ks vs q.2.2.2 q.2.2.1).2 (putZ ks ds p.1 p.2).2 t (by rw [← e3]; exact e2) (by rw [h1]; exact putZ_at h2 al)
    refine ⟨vs', ?_, g2, g3⟩
    rw [List.map_cons, List.foldl_cons]
    show List.foldl _ (putK (ks.zip vs) q.2.2.2 q.2.2.1) _ = _
    rw [e1, e3]
    exact g1
theorem dictT_ok : OpL K cl dictTG rDictT := by
  intro F H xs ds rv Q le hx hg res
  unfold dictTG at hg
  split at hg
  · split at hg
    · rename_i es hl
      obtain ⟨ps, h1, hg⟩ := Option.bind_eq_some_iff.mp hg
      cases hg
      obtain ⟨v, rfl, h⟩ := pair1 hx
      obtain ⟨a, vs, o, rfl, e1, e2, al⟩ := at_ptup h
      obtain ⟨L, g1, g2, g3⟩ := prs_at le al h1
      subst g1
      have ln := al.length
      rw [List.length_map] at ln
      refine ⟨a, o, L, rfl, le _ _ e1, e2, g2, by omega, fun d hd => ?_⟩
      obtain ⟨vs', f1, f2, f3⟩ := fold_zip [] [] [] g3 rfl .nil
      exact res d _ hd ⟨vs', by rw [upd_same]; exact congrArg some (congrArg HO.dT f1), f2, f3⟩
    · cases hg
  · cases hg
end
end Z

set_option Elab.async false
set_option linter.all false
set_option maxRecDepth 100000
set_option maxHeartbeats 1000000
/-! sorted of rows ((a, b), c); sorted(d.items()). -/
namespace Z
open PySem PySem.Spec PyProof.Rows L2
abbrev R3 := Int × Int × Int
def encR (r : R3) : PyData := .tuple [.tuple [.int r.1, .int r.2.1], .int r.2.2]
def le3 : R3 → R3 → Bool := PySem.W.dataLe false encR
theorem enc_alike (r s : R3) : PySem.W.alike (encR r) (encR s) = true := by unfold encR; simp [PySem.W.alike, PySem.W.alikeAll]
theorem enc_depth (r : R3) : (encR r).depth = 2 := by unfold encR; simp [PyData.depth, PyData.depthAll]
section
variable {X : Cx} {K : PySem.W.Frag} {cl : Str → Addr} {F H : Hp}
def rSortR (K : PySem.W.Frag) : List V → Hp → VK → Prop := fun xs H Q => ∃ (a : Addr) (bs : List (V × R3)), xs = [.ref a] ∧ SqL K H a (bs.map (·.1)) ∧ (∀ b ∈ bs, Dp K H b.1 (encR b.2)) ∧ bs.length ≤ 16777216 ∧
  ∀ l, H l = none → Q (.ref l) (upd H l (.lst ((bs.mergeSort fun x y => le3 x.2 y.2).map (·.1))))
theorem each_of {β : Type} {Rl : Value → β → Prop} {g : β → V} (h : ∀ (b : β) (u : Value), RelV (g b) u → Rl u b) : ∀ (bs : List β) (its : List Value), Vals (bs.map g) its → PySem.W.EachIs Rl its bs
  | [], _, r => by rw [List.map_nil] at r; cases r; exact .nil
  | b :: bs, _, r => by
    rw [List.map_cons] at r
    cases r with
    | cons r1 r2 => exact .cons (h b _ r1) (each_of h bs _ r2)
theorem vals_each {β : Type} {g : β → V} : ∀ {bs : List β} {out : List Value}, PySem.W.EachIs (fun u b => RelV (g b) u) out bs → Vals (bs.map g) out
  | _, _, .nil => .nil
  | _, _, .cons h t => .cons h (vals_each t)
theorem each_mem {α β : Type} {Rl : α → β → Prop} {Pr : β → Prop} : ∀ {as : List α} {bs : List β}, PySem.W.EachIs Rl as bs → (∀ b ∈ bs, Pr b) → PySem.W.EachIs (fun a b => Rl a b ∧ Pr b) as bs
  | _, _, .nil, _ => .nil
  | _, _, .cons h t, hp => .cons ⟨h, hp _ List.mem_cons_self⟩ (each_mem t fun b hb => hp b (List.mem_cons_of_mem _ hb))
theorem cr_sortR (hu : X.A.units + 64 < cLine) : CallR X (.builtin "sorted") (rSortR X.K) := by
  intro pins s σ H xs us Q I r h
  obtain ⟨a, bs, rfl, hs, hb, hl, q⟩ := h
  obtain ⟨its, rv, pl, hz⟩ := I.list hs
  rw [Vals.ref1 r]
  have e := each_of (Rl := fun u b => RelV b.1 u) (g := fun b : V × R3 => b.1) (fun _ _ h => h) bs its rv
  have er : PySem.W.EachIs (fun v b => ∃ as, PySem.Reads s.heap v (encR b.2) as) its bs := (each_mem e hb).mono fun u b ⟨h1, h2⟩ => Dp.reads I _ _ _ h2 h1
  refine PySem.W.sorted_data (A := X.A) (enc := fun b : V × R3 => encR b.2) pl.isList e er (PySem.W.AllAlike.of fun b b' => enc_alike _ _) (PySem.W.Sortable.tuples fun b => ⟨_, _, rfl⟩) (by rw [sizeLine_eq]; omega) (fun b _ => by rw [enc_depth]; omega) fun out o1 o2 => ?_
  obtain ⟨ep, he⟩ := PyProof.Rows.sortedAll_at s.heap its out.toArray
  have rv2 : Vals ((bs.mergeSort fun x y => le3 x.2 y.2).map (·.1)) out := vals_each o2
  have obj : ObjOk X.prog X.w (upd H (s.heap.objs.size + 1) (.lst ((bs.mergeSort fun x y => le3 x.2 y.2).map (·.1)))) (PyProof.Rows.sortedAll s.heap its out.toArray) (s.heap.objs.size + 1) (.lst ((bs.mergeSort fun x y => le3 x.2 y.2).map (·.1))) :=
    ⟨by rw [List.length_map, List.length_mergeSort, sizeLine_eq]; omega, out, ep, rv2, he⟩
  exact ⟨.ref _, _, I.laid (t' := s.toks) (fun _ _ => PyProof.Rows.sortedAll_old) (Nat.le_succ _) obj, rfl, q _ (I.hok.fresh (Nat.le_succ _))⟩
def rowD (r : R3) : Z.D := .tup [.tup [.int r.1, .int r.2.1], .int r.2.2]
def rowZ : Z.D → Option R3
  | .tup [.tup [.int a, .int b], .int c] => some (a, b, c)
  | _ => none
theorem rowZ_eq {d : Z.D} {r : R3} (h : rowZ d = some r) : d = rowD r := by
  unfold rowZ at h
  split at h
  · cases h; rfl
  · cases h
def rowsZ : List Z.D → Option (List R3)
  | [] => some []
  | d :: r => (rowZ d).bind fun x => (rowsZ r).bind fun xs => some (x :: xs)
theorem rowsZ_eq : ∀ {ds : List Z.D} {rs : List R3}, rowsZ ds = some rs → ds = rs.map rowD
  | [], rs, h => by cases h; rfl
  | d :: r, rs, h => by
    unfold rowsZ at h
    obtain ⟨x, h1, h⟩ := Option.bind_eq_some_iff.mp h
    obtain ⟨xs, h2, h⟩ := Option.bind_eq_some_iff.mp h
    cases h
    rw [rowZ_eq h1, rowsZ_eq h2]; rfl
theorem rowsZ_map : ∀ (rs : List R3), rowsZ (rs.map rowD) = some rs
  | [] => rfl
  | r :: rs => by show (rowZ (rowD r)).bind _ = _; rw [show rowZ (rowD r) = some r from rfl, Option.bind_some, rowsZ_map rs]; rfl
def sortRG : List Z.D → Option Rv
  | [.lst ds] => (rowsZ ds).bind fun rs => if rs.length ≤ 16777216 then some (.own (.lst ((rs.mergeSort le3).map rowD))) else none
  | _ => none
theorem all_zip : ∀ {vs : List V} {rs : List R3}, AtAll K cl F vs (rs.map rowD) → ∃ bs : List (V × R3), bs.map (·.1) = vs ∧ bs.map (·.2) = rs ∧ ∀ b ∈ bs, At K cl F b.1 (rowD b.2)
  | _, [], .nil => ⟨[], rfl, rfl, fun b hb => nomatch hb⟩
  | _, r :: rs, .cons h t => by
    obtain ⟨bs, e1, e2, e3⟩ := all_zip t
    exact ⟨(_, r) :: bs, by rw [List.map_cons, e1], by rw [List.map_cons, e2], fun b hb => (List.mem_cons.mp hb).elim (fun z => by rw [z]; exact h) (e3 b)⟩
theorem all_unzip : ∀ {bs : List (V × R3)}, (∀ b ∈ bs, At K cl F b.1 (rowD b.2)) → AtAll K cl F (bs.map (·.1)) (bs.map fun b => rowD b.2)
  | [], _ => .nil
  | b :: bs, h => .cons (h b List.mem_cons_self) (all_unzip fun c hc => h c (List.mem_cons_of_mem _ hc))
theorem sort_snd (bs : List (V × R3)) : (bs.mergeSort fun x y => le3 x.2 y.2).map (·.2) = (bs.map (·.2)).mergeSort le3 := List.map_mergeSort (fun a _ b _ => rfl)
theorem sortR_ok : OpL K cl sortRG (rSortR K) := by
  intro F H xs ds rv Q le hx hg res
  unfold sortRG at hg
  split at hg
  · obtain ⟨rs, h1, hg⟩ := Option.bind_eq_some_iff.mp hg
    split at hg
    · rename_i hl
      cases hg
      obtain ⟨v, rfl, h⟩ := pair1 hx
      obtain ⟨a, vs, rfl, e, al⟩ := h
      rw [rowsZ_eq h1] at al
      obtain ⟨bs, g1, g2, g3⟩ := all_zip al
      subst g1
      have ln : bs.length = rs.length := by rw [← g2, List.length_map]
      refine ⟨a, bs, rfl, SqL.of e, fun b hb => dp_of le (g3 b hb) ?_, by omega, fun l hl2 => ?_⟩
      · show pyD (rowD b.2) = _
        unfold rowD encR
        simp only [pyD, pyL, Option.bind_some]
      · have em : (rs.mergeSort le3).map rowD = (bs.mergeSort fun x y => le3 x.2 y.2).map fun b => rowD b.2 := by
          rw [← g2, ← sort_snd, List.map_map]; rfl
        rw [em] at res
        exact res.lst hl2 (all_unzip fun b hb => g3 b ((List.mergeSort_perm _ _).mem_iff.mp hb))
    · cases hg
  · cases hg
end
end Z

set_option Elab.async false
set_option linter.all false
set_option maxRecDepth 100000
set_option maxHeartbeats 2000000
/-! sorted(d.items()). -/
namespace Z
open PySem PySem.Spec PyProof.Rows L2
section
variable {X : Cx} {K : PySem.W.Frag} {cl : Str → Addr}
def keyR (r : R3) : List Key := [.inl r.1, .inl r.2.1]
def rSortIt (K : PySem.W.Frag) : List V → Hp → VK → Prop := fun vs H Q => ∃ (p a : Addr) (rs : List R3), vs = [.ref p] ∧ H p = some (DX.itemsO p a) ∧ H a = some (.dT (rs.map fun r => (keyR r, V.int r.2.2))) ∧ rs.length ≤ 16777216 ∧
  ∀ (H' : Hp) (l : Addr) (zs : List ((Addr × R3) × Addr)), Le H H' → H l = none → zs.map (·.1.2) = rs.mergeSort le3 → H' l = some (.lst (zs.map fun z => V.ref z.1.1)) →
    (∀ z ∈ zs, H' z.1.1 = some (.tup [.ref z.2, .int z.1.2.2.2]) ∧ H' z.2 = some (.tup [.int z.1.2.1, .int z.1.2.2.1])) → Q (.ref l) H'
theorem refs_eq {β : Type} {g : β → Addr} : ∀ {bs : List β} {out : List Value}, PySem.W.EachIs (fun u b => u = Value.ref (g b)) out bs → out = bs.map fun b => Value.ref (g b)
  | _, _, .nil => rfl
  | _, _, .cons h t => by rw [h, refs_eq t]; rfl
theorem each_refs {β : Type} {g : β → Addr} : ∀ (bs : List β), PySem.W.EachIs (fun u b => u = Value.ref (g b)) (bs.map fun b => Value.ref (g b)) bs
  | [] => .nil
  | b :: bs => .cons rfl (each_refs bs)
theorem vals_refs2 {β : Type} {g : β → Addr} : ∀ (bs : List β), Vals (bs.map fun b => V.ref (g b)) (bs.map fun b => Value.ref (g b))
  | [] => .nil
  | b :: bs => .cons rfl (vals_refs2 bs)
theorem cr_sortIt (hc : X.calm = true) (hu : X.A.units + 64 < cLine) : CallR X (.builtin "sorted") (rSortIt X.K) := by
  intro pins s σ H xs us Q I r h
  obtain ⟨p, a, rs, rfl, hp, ha, hl, q⟩ := h
  rw [Vals.ref1 r]
  have view : s.heap.IsItemsView p a := (show ObjOk X.prog X.w H s.heap p (DX.itemsO p a) from I.hok p _ hp).1
  obtain ⟨_, _, xs', rel, o, es, ep, ho, hx, hdat, hes, _, _⟩ := dt_of I.hok ha
  have l1 : rs.length = xs'.length := by have := Paired.length rel; rwa [List.length_map] at this
  have l2 : es.size = xs'.length := size_of_entries hes
  refine DT.sortedI (es := es) (ep := ep) (I.ok.hd hc) view ⟨o, ho, hx, hdat⟩ (by rw [sizeLine_eq]; omega) fun h' tk as keep grown lenAs made => ?_
  have l3 : as.length = rs.length := by omega
  have nodup : as.Nodup := List.Pairwise.imp (fun h => Nat.ne_of_lt h) made.rise
  -- what the new pairs are
  have each : ∀ x ∈ as.zip rs, ∃ kq, H kq = some (.tup [.int x.2.1, .int x.2.2.1]) ∧ ∃ t, h'.get? x.1 = some { cls := .type "tuple", data := .seq #[Value.ref kq, Value.int x.2.2.2 t] } := by
    rintro ⟨b, row⟩ hm
    obtain ⟨j, hj⟩ := List.mem_iff_getElem?.mp hm
    obtain ⟨j1, j2⟩ := List.getElem?_zip_eq_some.mp hj
    obtain ⟨en, e1, e2⟩ := made.pairs j b j1
    rw [entry_at hes j] at e1
    obtain ⟨x, hxj⟩ : ∃ x, xs'[j]? = some x := by
      cases w : xs'[j]? with
      | none => rw [w] at e1; cases e1
      | some x => exact ⟨x, rfl⟩
    rw [hxj] at e1
    have een : entryOfKey (tupleKind (mixKind X.prog X.w)) x = en := Option.some.inj e1
    obtain ⟨kv, k1, r1, r2, r3⟩ := DX.pget rel hxj
    rw [List.getElem?_map, j2] at k1
    cases k1
    obtain ⟨t, r3⟩ := r3
    refine ⟨x.2.1, r2, t, ?_⟩
    rw [e2, ← een, ← r3]
    rfl
  obtain ⟨ys, ey, hy⟩ := lift_all (as.zip rs) each
  have yas : ys.map (fun y => Value.ref y.1.1) = as.map Value.ref := by
    have := congrArg (List.map fun x : Addr × R3 => Value.ref x.1) ey
    rw [List.map_map] at this
    refine this.trans ?_
    have z := List.map_fst_zip (l₁ := as) (l₂ := rs) (by omega)
    have := congrArg (List.map Value.ref) z
    rw [List.map_map] at this
    exact this
  have yrs : ys.map (fun y => y.1.2) = rs := by
    have := congrArg (List.map fun x : Addr × R3 => x.2) ey
    rw [List.map_map] at this
    exact this.trans (List.map_snd_zip (by omega))
  have yin : ∀ y ∈ ys, y.1.1 ∈ as := fun y hm => by
    have : y.1 ∈ as.zip rs := by rw [← ey]; exact List.mem_map.mpr ⟨y, hm, rfl⟩
    exact (List.of_mem_zip this).1
  have lys : ys.length = rs.length := by rw [← yrs, List.length_map]
  rw [← yas]
  have hob : (h'.push { cls := .type "list", data := .seq (ys.map fun y => Value.ref y.1.1).toArray }).get? h'.objs.size = some (seqObj "list" (ys.map fun y => Value.ref y.1.1).toArray 0) := Heap.get?_push_size _ rfl
  have up1 : ∀ b u, h'.get? b = some u → (h'.push { cls := .type "list", data := .seq (ys.map fun y => Value.ref y.1.1).toArray }).get? b = some u := fun b u e => Heap.get?_push_of_some _ e
  generalize h'.push { cls := .type "list", data := .seq (ys.map fun y => Value.ref y.1.1).toArray } = h2 at hob up1 ⊢
  have ne0 : ∀ b u, h'.get? b = some u → b ≠ h'.objs.size := fun b u e => Nat.ne_of_lt (Heap.lt_size e)
  have reads : PySem.W.EachIs (fun v y => ∃ as, Reads h2 v (encR y.1.2) as ∧ h'.objs.size ∉ as) (ys.map fun y => Value.ref y.1.1) ys := by
    refine (each_mem (each_refs (g := fun y : (Addr × R3) × Addr => y.1.1) ys) hy).mono ?_
    rintro u y ⟨rfl, hk, t, hg⟩
    obtain ⟨its, rv, ⟨ok, hok, hck, nk, hdk⟩, _⟩ := I.tuple (SqT.of hk)
    refine ⟨[], ?_, by simp⟩
    cases rv with
    | cons v1 v2 =>
      cases v2 with
      | cons v3 v4 =>
        cases v4
        obtain ⟨t1, rfl⟩ := v1
        obtain ⟨t2, rfl⟩ := v3
        have inner : Reads h2 (.ref y.2) (.tuple [.int y.1.2.1, .int y.1.2.2.1]) [] := .tuple (as := []) (up1 _ _ (keep _ _ hok)) hck hdk (.cons (as := []) (bs := []) (.int _ _) (.cons (as := []) (bs := []) (.int _ _) .nil))
        exact .tuple (as := []) (up1 _ _ hg) rfl rfl (.cons (as := []) (bs := []) inner (.cons (as := []) (bs := []) (.int _ _) .nil))
  refine PySem.W.list_sort_data (A := X.A.in1) (s := { s with heap := h2, toks := tk }) (enc := fun y : (Addr × R3) × Addr => encR y.1.2) hob (each_refs (g := fun y : (Addr × R3) × Addr => y.1.1) ys) reads (PySem.W.AllAlike.of fun b b' => enc_alike _ _) (PySem.W.Sortable.tuples fun b => ⟨_, _, rfl⟩) (by rw [sizeLine_eq]; omega) (fun b _ => by rw [enc_depth]; show X.A.units + 1 + 1 + 2 < cLine; omega) fun out o1 o2 => ?_
  have eout := refs_eq (g := fun y : (Addr × R3) × Addr => y.1.1) o2
  generalize hzs : ys.mergeSort (PySem.W.dataLe false fun y : (Addr × R3) × Addr => encR y.1.2) = zs at eout
  have pm : zs.Perm ys := by rw [← hzs]; exact List.mergeSort_perm _ _
  have zrs : zs.map (·.1.2) = rs.mergeSort le3 := by
    rw [← hzs, ← yrs]
    exact List.map_mergeSort (f := fun y : (Addr × R3) × Addr => y.1.2) (fun a _ b _ => rfl)
  subst eout
  obtain ⟨eF, heF⟩ := PyProof.Rows.sortedHeap_at (vs := ys.map fun y => Value.ref y.1.1) (out := (zs.map fun y => Value.ref y.1.1).toArray) hob
  have old : ∀ b u, b ≠ h'.objs.size → h2.get? b = some u → (PyProof.Rows.sortedHeap h2 h'.objs.size (ys.map fun y => Value.ref y.1.1) (zs.map fun y => Value.ref y.1.1).toArray).get? b = some u := fun b u hb e => (PyProof.Rows.sortedHeap_old hb (Heap.lt_size e)).trans e
  show EP X pins σ Q (.ref h'.objs.size) { s with heap := PyProof.Rows.sortedHeap h2 h'.objs.size (ys.map fun y => Value.ref y.1.1) (zs.map fun y => Value.ref y.1.1).toArray, toks := tk }
  generalize PyProof.Rows.sortedHeap h2 h'.objs.size (ys.map fun y => Value.ref y.1.1) (zs.map fun y => Value.ref y.1.1).toArray = h3 at heF old ⊢
  have I1 : Inv X pins σ H { s with heap := h3, toks := tk } := I.kept (t' := tk) fun b u e => old b u (ne0 _ _ (keep b u e)) (up1 _ _ (keep b u e))
  have hn0 : H h'.objs.size = none := I.hok.fresh (Nat.le_of_lt grown)
  have lstOk : ObjOk X.prog X.w (upd H h'.objs.size (.lst (zs.map fun z => V.ref z.1.1))) h3 h'.objs.size (.lst (zs.map fun z => V.ref z.1.1)) :=
    ⟨by rw [List.length_map, pm.length_eq, lys, sizeLine_eq]; omega, zs.map fun y => Value.ref y.1.1, eF, vals_refs2 zs, heF⟩
  have I2 := I1.take (h' := h3) (t' := tk) (fun b ob _ e => e) (I.fpOk (Nat.le_of_lt grown) hn0) lstOk
  obtain ⟨H2, I3, gr, at3⟩ := DX.takeT (P := fun b vs => ∃ y ∈ ys, y.1.1 = b ∧ vs = [.ref y.2, .int y.1.2.2.2]) I as _ I2 nodup fun b hb => by
    obtain ⟨y, hm, e⟩ := List.mem_map.mp (show Value.ref b ∈ ys.map fun y => Value.ref y.1.1 by rw [yas]; exact List.mem_map.mpr ⟨b, hb, rfl⟩)
    cases e
    obtain ⟨hk, t, hg⟩ := hy y hm
    have big : s.heap.objs.size ≤ y.1.1 := Nat.le_of_lt (made.above _ hb)
    refine ⟨big, ?_, [.ref y.2, .int y.1.2.2.2], ⟨y, hm, rfl, rfl⟩, fun H3 => ⟨by rw [sizeLine_eq]; show 2 ≤ 16777216; omega, [Value.ref y.2, Value.int y.1.2.2.2 t], .cons rfl (.cons ⟨t, rfl⟩ .nil), ⟨_, old _ _ (ne0 _ _ hg) (up1 _ _ hg), rfl, 0, rfl⟩⟩⟩
    rw [upd_ne (ne0 _ _ hg)]
    exact I.hok.fresh big
  have le : Le H H2 := fun b u e => gr b u (by rw [upd_ne (ne_of_none e hn0)]; exact e)
  refine ⟨.ref h'.objs.size, H2, I3, rfl, q H2 h'.objs.size zs le hn0 zrs (gr _ _ upd_same) fun z hz => ?_⟩
  have hz2 := pm.mem_iff.mp hz
  obtain ⟨vs, ⟨y, hm, e1, e2⟩, e3⟩ := at3 z.1.1 (yin z hz2)
  have nd2 : (ys.map fun (y : (Addr × R3) × Addr) => y.1.1).Nodup := by
    have : (ys.map fun (y : (Addr × R3) × Addr) => y.1.1).map Value.ref = as.map Value.ref := by rw [List.map_map]; exact yas
    have inj := List.map_inj_right (f := Value.ref) (fun a b e => Value.ref.inj e) |>.mp this
    rw [inj]; exact nodup
  have eyz : y = z := by
    obtain ⟨i, hi, e5⟩ := List.getElem_of_mem hm
    obtain ⟨j, hj, e6⟩ := List.getElem_of_mem hz2
    have hi2 : i < (ys.map fun (y : (Addr × R3) × Addr) => y.1.1).length := by rw [List.length_map]; exact hi
    have hj2 : j < (ys.map fun (y : (Addr × R3) × Addr) => y.1.1).length := by rw [List.length_map]; exact hj
    have : i = j := (List.getElem_inj (h₀ := hi2) (h₁ := hj2) nd2).mp (by rw [List.getElem_map, List.getElem_map, e5, e6]; exact e1)
    subst this
    rw [← e5, ← e6]
  subst eyz
  rw [e3, e2]
  exact ⟨rfl, le _ _ (hy y hm).1⟩
end
end Z

set_option Elab.async false
set_option linter.all false
set_option maxRecDepth 100000
set_option maxHeartbeats 2000000
/-! sorted(d.items()) as a meaning. -/
namespace Z
open PySem PySem.Spec PyProof.Rows L2
section
variable {K : PySem.W.Frag} {cl : Str → Addr} {pa : Nat → Addr} {F F' R H H' : Hp} {σ : L2.St} {ad : Nat → Addr} {env env' : En}
/-- the heap has grown -/
theorem RS.up (S : RS K cl pa F R H σ ad env) (le : Le H H') : RS K cl pa F R H' σ ad env where
  fh := S.fh.trans le
  rh := S.rh.trans le
  len := S.len
  dat := S.dat
  oc := fun i u e => by
    obtain ⟨h1, h2, h3, h4⟩ := S.oc i u e
    obtain ⟨ob, hb⟩ := h4.has
    exact ⟨h1, h2, h3, h4.mono (Le.refl _) (by rw [hb]; exact (le _ _ hb))⟩
  ne := S.ne
  par := S.par
  dj := S.dj
  slf := S.slf
/-- tuples that are there are known -/
theorem RS.learn : ∀ (L : List (Addr × List V)) {F : Hp}, RS K cl pa F R H σ ad env → (∀ q ∈ L, H q.1 = some (.tup q.2)) → ∃ F', Le F F' ∧ RS K cl pa F' R H σ ad env ∧ (∀ q ∈ L, F' q.1 = some (.tup q.2)) ∧ ∀ b, F b = none → (∀ q ∈ L, q.1 ≠ b) → F' b = none
  | [], F, S, _ => ⟨F, Le.refl _, S, fun q hq => (nomatch hq), fun b h _ => h⟩
  | q :: L, F, S, h => by
    have hq := h q List.mem_cons_self
    cases e : F q.1 with
    | some o =>
      have := S.fh _ _ e
      rw [hq] at this
      cases this
      obtain ⟨F', l, S', g1, g2⟩ := RS.learn L S fun p hp => h p (List.mem_cons_of_mem _ hp)
      exact ⟨F', l, S', fun p hp => (List.mem_cons.mp hp).elim (fun z => by rw [z]; exact l _ _ e) (g1 p), fun b hb hn => g2 b hb fun p hp => hn p (List.mem_cons_of_mem _ hp)⟩
    | none =>
      have S1 := S.grow (.kn q.1 q.2 hq e)
      obtain ⟨F', l, S', g1, g2⟩ := RS.learn L S1 fun p hp => h p (List.mem_cons_of_mem _ hp)
      refine ⟨F', (Le.put e).trans l, S', fun p hp => (List.mem_cons.mp hp).elim (fun z => by rw [z]; exact l _ _ upd_same) (g1 p), fun b hb hn => g2 b ?_ fun p hp => hn p (List.mem_cons_of_mem _ hp)⟩
      rw [upd_ne (fun z => hn q List.mem_cons_self z.symm)]
      exact hb
end
section
variable {X : Cx} {K : PySem.W.Frag} {cl : Str → Addr} {F H : Hp}
def rowK : List Key → Z.D → Option R3
  | [.inl a, .inl b], .int c => some (a, b, c)
  | _, _ => none
theorem rowK_eq {k : List Key} {d : Z.D} {r : R3} (h : rowK k d = some r) : k = keyR r ∧ d = .int r.2.2 := by
  unfold rowK at h
  split at h
  · cases h; exact ⟨rfl, rfl⟩
  · cases h
def dictRows : List (List Key) → List Z.D → Option (List R3)
  | [], [] => some []
  | k :: ks, d :: ds => (rowK k d).bind fun r => (dictRows ks ds).bind fun rs => some (r :: rs)
  | _, _ => none
theorem dictRows_eq : ∀ {ks : List (List Key)} {ds : List Z.D} {rs : List R3}, dictRows ks ds = some rs → ks = rs.map keyR ∧ ds = rs.map fun r => .int r.2.2
  | [], [], rs, h => by cases h; exact ⟨rfl, rfl⟩
  | k :: ks, d :: ds, rs, h => by
    unfold dictRows at h
    obtain ⟨r, h1, h⟩ := Option.bind_eq_some_iff.mp h
    obtain ⟨rs', h2, h⟩ := Option.bind_eq_some_iff.mp h
    cases h
    obtain ⟨e1, e2⟩ := rowK_eq h1
    obtain ⟨e3, e4⟩ := dictRows_eq h2
    exact ⟨by rw [e1, e3]; rfl, by rw [e2, e4]; rfl⟩
  | [], _ :: _, _, h => by cases h
  | _ :: _, [], _, h => by cases h
theorem dictRows_map : ∀ (rs : List R3), dictRows (rs.map keyR) (rs.map fun r => .int r.2.2) = some rs
  | [] => rfl
  | r :: rs => by
    show (rowK (keyR r) (.int r.2.2)).bind _ = _
    rw [show rowK (keyR r) (.int r.2.2) = some r from rfl, Option.bind_some, dictRows_map rs]; rfl
theorem ints_at : ∀ {vs : List V} {rs : List R3}, AtAll K cl F vs (rs.map fun r => Z.D.int r.2.2) → vs = rs.map fun r => V.int r.2.2
  | _, [], .nil => rfl
  | _, r :: rs, .cons h t => by cases h; rw [ints_at t]; rfl
theorem zip_rows (rs : List R3) : (rs.map keyR).zip (rs.map fun r => V.int r.2.2) = rs.map fun r => (keyR r, V.int r.2.2) := by
  induction rs with
  | nil => rfl
  | cons r rs ih => rw [List.map_cons, List.map_cons, List.zip_cons_cons, ih]; rfl
def sortItS (fo : Fe) : Fe := fun env => (fo env).bind fun p => (rd p.2 (fz p.1)).bind fun d => (dtOf d).bind fun t => (dictRows t.1 t.2).bind fun rs => if rs.length ≤ 16777216 then some (.own (.lst ((rs.mergeSort le3).map rowD)), p.2) else none
theorem rows_at {zs : List ((Addr × R3) × Addr)} (h : ∀ z ∈ zs, F z.1.1 = some (.tup [.ref z.2, .int z.1.2.2.2]) ∧ F z.2 = some (.tup [.int z.1.2.1, .int z.1.2.2.1])) : AtAll K cl F (zs.map fun z => V.ref z.1.1) (zs.map fun z => rowD z.1.2) := by
  induction zs with
  | nil => exact .nil
  | cons z zs ih =>
    obtain ⟨h1, h2⟩ := h z List.mem_cons_self
    exact .cons (.tup h1 (.cons (.tup h2 (.cons (.int _) (.cons (.int _) .nil))) (.cons (.int _) .nil))) (ih fun y hy => h y (List.mem_cons_of_mem _ hy))
theorem pr_sortIt {o : Expr} {p apos cpos pos : Pos} {fo : Fe} (hc : X.calm = true) (hu : X.A.units + 64 < cLine) (hm : X.mg "sorted" = none) (hv : bootBuiltins "sorted" = some (.builtin "sorted")) (ho : PE X o (tR X.K cl fo)) (hg : Gl X "sorted" := by rfl)
    (hbase : attributeBase o "items" X.env (eval o X.env) = eval o X.env := by rfl) (hline : (apos.endLine == cpos.line) = true := by rfl)
    (he : starEach [Expr.Call (.Attribute o "items" apos) [] [] cpos] X.env = (false, eval (Expr.Call (.Attribute o "items" apos) [] [] cpos) X.env) :: starEach [] X.env := by rfl) :
    PE X (.Call (.Name "sorted" p) [.Call (.Attribute o "items" apos) [] [] cpos] [] pos) (tR X.K cl (sortItS fo)) := by
  refine PE_weak (pe_callB (cr_sortIt hc hu) hg hm hv (pa_cons (pe_bm0 PySem.F.plainAttrs_dict PySem.F.slot_dict_items PySem.F.type_dict_items DX.mt_itemsT ho hbase hline) pa_nil he) (by decide) (by decide) he rfl) fun σ H Q q => ?_
  obtain ⟨pa, F, R, ad, env, rv, env', S, hf, k⟩ := q
  unfold sortItS at hf
  obtain ⟨⟨r1, e1⟩, h1, hf⟩ := Option.bind_eq_some_iff.mp hf
  obtain ⟨d, h2, hf⟩ := Option.bind_eq_some_iff.mp hf
  obtain ⟨⟨ks, ds⟩, h3, hf⟩ := Option.bind_eq_some_iff.mp hf
  obtain ⟨rs, h4, hf⟩ := Option.bind_eq_some_iff.mp hf
  split at hf
  · rename_i hl
    cases hf
    rw [dtOf_eq h3] at h2
    obtain ⟨ek, ed⟩ := dictRows_eq h4
    refine ⟨pa, F, R, ad, env, r1, _, S, h1, fun F1 ad1 H1 v l1 S1 a1 => ?_⟩
    obtain ⟨F2, l2, S2, a2⟩ := S1.fzz a1
    obtain ⟨a, vs, rfl, z1, z2, z3⟩ := at_dt (S2.read a2 h2)
    have ek : ks = _ := ek
    have ed : ds = _ := ed
    subst ek
    subst ed
    rw [ints_at z3, zip_rows] at z1
    refine ⟨.inr (.inr (.inl ⟨rfl, .inr ⟨_, z1⟩⟩)), a, _, rfl, rfl, z1, fun p hp => ?_⟩
    refine ⟨p, a, rs, rfl, upd_same, by rw [upd_ne (ne_of_none z1 hp)]; exact z1, hl, fun H' l zs le hn zrs hlst hz => ?_⟩
    have S3 := (S2.newAt (o := DX.itemsO p a) hp).up le
    obtain ⟨F3, l3, S4, g1, g2⟩ := RS.learn ((zs.map fun z => (z.2, [V.int z.1.2.1, V.int z.1.2.2.1])) ++ zs.map fun z => (z.1.1, [V.ref z.2, V.int z.1.2.2.2])) S3 (by
      intro q hq
      rcases List.mem_append.mp hq with w | w
      · obtain ⟨z, hz', rfl⟩ := List.mem_map.mp w; exact (hz z hz').2
      · obtain ⟨z, hz', rfl⟩ := List.mem_map.mp w; exact (hz z hz').1)
    have hn1 : H1 l = none := by
      by_cases w : l = p
      · rw [w]; exact hp
      · rw [upd_ne w] at hn; exact hn
    have hF : F3 l = none := g2 l (S2.fh.fresh hn1) fun q hq e => by
      rcases List.mem_append.mp hq with w | w
      · obtain ⟨z, hz', rfl⟩ := List.mem_map.mp w
        have := (hz z hz').2
        rw [show z.2 = l from e, hlst] at this; cases this
      · obtain ⟨z, hz', rfl⟩ := List.mem_map.mp w
        have := (hz z hz').1
        rw [show z.1.1 = l from e, hlst] at this; cases this
    have em : (rs.mergeSort le3).map rowD = zs.map fun z => rowD z.1.2 := by rw [← zrs, List.map_map]; rfl
    rw [em] at k
    refine k F3 ad1 H' _ ((l1.trans l2).trans l3) S4 ⟨l, rfl, hF, S2.rh.fresh hn1, ⟨_, hlst, rows_at fun z hz' => ⟨g1 _ (List.mem_append_right _ (List.mem_map.mpr ⟨z, hz', rfl⟩)), g1 _ (List.mem_append_left _ (List.mem_map.mpr ⟨z, hz', rfl⟩))⟩⟩, fun j hj z => ?_⟩
    cases e : ocOf e1 j with
    | none => rw [e] at hj; cases hj
    | some u =>
      obtain ⟨_, _, _, q4⟩ := S2.oc j u e
      obtain ⟨ob, hb⟩ := q4.has
      rw [z, hn1] at hb; cases hb
  · cases hf
end
end Z

set_option Elab.async false
set_option linter.all false
set_option maxRecDepth 100000
set_option maxHeartbeats 2000000
/-! [(place, found[place]) for place in found], found a dict keyed by tuples; min of a list of ints. -/
namespace Z
open PySem PySem.Spec PyProof.Rows L2
section
variable {X : Cx} {K : PySem.W.Frag} {cl : Str → Addr} {F H : Hp}
def itemsCS (i j : Nat) : Fe := fun env => (rdS env i).bind fun d => (dtOf d).bind fun t => (dictRows t.1 t.2).bind fun rs => if rs.length ≤ 16777216 ∧ t.1.Nodup ∧ j < env.length then some (.own (.lst (rs.map rowD)), env) else none
theorem valV_row : ∀ {rs : List R3} {n : Nat} {r : R3}, (rs.map keyR).Nodup → rs[n]? = some r → valV (rs.map fun r => (keyR r, V.int r.2.2)) (keyR r) = some (.int r.2.2)
  | [], n, r, _, h => by simp at h
  | q :: rs, 0, r, _, h => by
    have : q = r := by simpa using h
    subst this
    exact valV_pos (p := (keyR q, V.int q.2.2)) rfl
  | q :: rs, n + 1, r, hn, h => by
    have h' : rs[n]? = some r := by simpa using h
    rw [List.map_cons, List.nodup_cons] at hn
    have hne : ¬ keyR q = keyR r := fun z => hn.1 (by rw [z]; exact List.mem_map.mpr ⟨r, List.mem_of_getElem? h', rfl⟩)
    rw [List.map_cons, valV_neg (p := (keyR q, V.int q.2.2)) hne]
    exact valV_row hn.2 h'
theorem take_succ_get {α : Type} {l : List α} {i : Nat} {x : α} (h : l[i]? = some x) : l.take (i + 1) = l.take i ++ [x] := by
  rw [List.take_add_one, h]; rfl
def ItW (H : Hp) (a Dl : Addr) (od : Obj) (rs : List R3) (i m : Nat) (Hc : Hp) : Prop :=
  m + i = rs.length ∧ (∃ zs : List ((Addr × R3) × Addr), zs.map (·.1.2) = rs.take i ∧ Hc Dl = some (.lst (zs.map fun z => V.ref z.1.1)) ∧ ∀ z ∈ zs, Hc z.1.1 = some (.tup [.ref z.2, .int z.1.2.2.2]) ∧ Hc z.2 = some (.tup [.int z.1.2.1, .int z.1.2.2.1])) ∧
    Hc a = some (.frz od (.dT (rs.map fun r => (keyR r, V.int r.2.2)))) ∧ ∀ b o, b ≠ a → H b = some o → Hc b = some o
theorem items_red {i j : Nat} (hij : i ≠ j) : ∀ σ H Q, tR X.K cl (itemsCS i j) σ H Q → tLockE (tLc (iKeys (tVar i)) (gName j) tYes (tTup (tCons (tVar j) (tCons (tDGet (tVar i) (tVar j)) tNil))) [j]) σ H Q := by
  intro σ H Q q
  obtain ⟨pa, F, R, ad, env, rv, env', S, hf, k⟩ := q
  unfold itemsCS at hf
  obtain ⟨d, h1, hf⟩ := Option.bind_eq_some_iff.mp hf
  obtain ⟨⟨ks, ds⟩, h2, hf⟩ := Option.bind_eq_some_iff.mp hf
  obtain ⟨rs, h3, hf⟩ := Option.bind_eq_some_iff.mp hf
  split at hf
  · rename_i hl
    obtain ⟨hl, hnd, hj⟩ := hl
    rw [S.len] at hj
    cases hf
    rw [dtOf_eq h2] at h1
    obtain ⟨ek, ed⟩ := dictRows_eq h3
    have ek : ks = _ := ek
    have ed : ds = _ := ed
    subst ek
    subst ed
    have hslot : ∃ s, env[i]? = some (some s) := by
      unfold rdS at h1
      split at h1
      · rename_i w; exact ⟨_, w⟩
      · rename_i w; exact ⟨_, w⟩
      · rename_i w; exact ⟨_, w⟩
      · cases h1
    obtain ⟨s, hs⟩ := hslot
    obtain ⟨v, hv⟩ := S.slot hs
    obtain ⟨a, vs, rfl, z1, z2, z3⟩ := at_dt (S.read (r := .slot i) hv h1)
    rw [ints_at z3, zip_rows] at z1
    refine ⟨a, _, z1, True.intro, fun od => ⟨.ref a, hv, a, od, rfl, .inr ⟨_, upd_same, fun Dl hD => ?_⟩⟩⟩
    have hDa : Dl ≠ a := fun z => by rw [z, upd_same] at hD; cases hD
    rw [upd_ne hDa] at hD
    refine ⟨ItW H a Dl od rs, ⟨rs.length, rfl, ⟨[], rfl, upd_same, fun z hz => (nomatch hz)⟩, by rw [upd_ne hDa.symm]; exact upd_same, fun b o hb e => ?_⟩, fun n m Hc w => ?_⟩
    · rw [upd_ne (fun z => by rw [z, hD] at e; cases e), upd_ne hb]; exact e
    · obtain ⟨hm, ⟨zs, e1, e2, e3⟩, e4, e5⟩ := w
      by_cases hn : n < rs.length
      · right
        obtain ⟨r, hr⟩ : ∃ r, rs[n]? = some r := ⟨_, List.getElem?_eq_getElem hn⟩
        refine ⟨⟨e4, by rw [List.length_map]; exact hn⟩, ItW H a Dl od rs (n + 1) (m - 1), fun H' w' => ⟨m - 1, by omega, w'⟩, fun x H' hy => ?_⟩
        obtain ⟨rfl, kk, v, q, g1, rfl, g2⟩ := hy
        rw [List.getElem?_map, hr] at g1
        cases g1
        have hσi : ((L2.wipe σ [j]).set j (some (V.ref q)))[i]? = some (some (.ref a)) := by
          rw [List.getElem?_set_ne hij.symm, wipe_out (by simpa using hij)]; exact hv
        have hσj : ((L2.wipe σ [j]).set j (some (V.ref q)))[j]? = some (some (.ref q)) := by
          rw [List.getElem?_set_self (by rw [wipe_length]; exact hj)]
        refine ⟨by simp [L2.wipe], ?_⟩
        unfold tYes
        refine iteT ?_
        refine ⟨_, hσj, _, hσi, _, hσj, a, _, rfl, .inr ⟨_, keyR r, q, .inr ⟨od, e4⟩, rfl, g2, (valV_row hnd hr).symm⟩, by simp [sizeLine_eq], fun p hp => ?_⟩
        have hpD : p ≠ Dl := fun z => by rw [z, e2] at hp; cases hp
        have hpa : p ≠ a := fun z => by rw [z, e4] at hp; cases hp
        have hlz : zs.length = n := by
          have := congrArg List.length e1
          rw [List.length_map, List.length_take] at this
          omega
        refine ⟨_, by rw [upd_ne hpD.symm]; exact e2, by rw [List.length_map, hlz, sizeLine_eq]; omega, by omega, ⟨zs ++ [((p, r), q)], by rw [List.map_append, e1, take_succ_get hr]; rfl, by rw [upd_same, List.map_append]; rfl, fun z hz => ?_⟩, ?_, fun b o hb e => ?_⟩
        · rcases List.mem_append.mp hz with w | w
          · obtain ⟨y1, y2⟩ := e3 z w
            refine ⟨?_, ?_⟩
            · rw [upd_ne (fun c => by rw [c, e2] at y1; cases y1), upd_ne (fun c => by rw [c, hp] at y1; cases y1)]; exact y1
            · rw [upd_ne (fun c => by rw [c, e2] at y2; cases y2), upd_ne (fun c => by rw [c, hp] at y2; cases y2)]; exact y2
          · have : z = ((p, r), q) := by simpa using w
            subst this
            refine ⟨?_, ?_⟩
            · show upd _ _ _ p = _; rw [upd_ne hpD, upd_same]
            · show upd _ _ _ q = _
              rw [upd_ne (fun c => by rw [c, e2] at g2; cases g2), upd_ne (fun c => by rw [c, hp] at g2; cases g2)]; exact g2
        · rw [upd_ne hDa.symm, upd_ne hpa.symm]; exact e4
        · rw [upd_ne (fun c => by rw [c, hD] at e; cases e), upd_ne (fun c => by have := e5 b o hb e; rw [c, hp] at this; cases this)]; exact e5 b o hb e
      · left
        refine ⟨⟨e4, by rw [List.length_map]; omega⟩, e4, ?_⟩
        have le : Le H (upd Hc a (.dT (rs.map fun r => (keyR r, V.int r.2.2)))) := fun b o e => by
          by_cases hb : b = a
          · rw [hb, upd_same]; rw [hb, z1] at e; exact e
          · rw [upd_ne hb]; exact e5 b o hb e
        have S1 := S.up le
        rw [List.take_of_length_le (by omega)] at e1
        have hz' : ∀ z ∈ zs, upd Hc a (.dT (rs.map fun r => (keyR r, V.int r.2.2))) z.1.1 = some (.tup [.ref z.2, .int z.1.2.2.2]) ∧ upd Hc a (.dT (rs.map fun r => (keyR r, V.int r.2.2))) z.2 = some (.tup [.int z.1.2.1, .int z.1.2.2.1]) := fun z hz => by
          obtain ⟨y1, y2⟩ := e3 z hz
          exact ⟨by rw [upd_ne (fun c => by rw [c, e4] at y1; cases y1)]; exact y1, by rw [upd_ne (fun c => by rw [c, e4] at y2; cases y2)]; exact y2⟩
        have hlst : upd Hc a (.dT (rs.map fun r => (keyR r, V.int r.2.2))) Dl = some (.lst (zs.map fun z => V.ref z.1.1)) := by rw [upd_ne hDa]; exact e2
        generalize upd Hc a (.dT (rs.map fun r => (keyR r, V.int r.2.2))) = H' at le S1 hz' hlst
        obtain ⟨F3, l3, S4, g1, g2⟩ := RS.learn ((zs.map fun z => (z.2, [V.int z.1.2.1, V.int z.1.2.2.1])) ++ zs.map fun z => (z.1.1, [V.ref z.2, V.int z.1.2.2.2])) S1 (by
          intro q hq
          rcases List.mem_append.mp hq with w | w
          · obtain ⟨z, hz, rfl⟩ := List.mem_map.mp w; exact (hz' z hz).2
          · obtain ⟨z, hz, rfl⟩ := List.mem_map.mp w; exact (hz' z hz).1)
        have hF : F3 Dl = none := g2 Dl (S.fh.fresh hD) fun q hq e => by
          rcases List.mem_append.mp hq with w | w
          · obtain ⟨z, hz, rfl⟩ := List.mem_map.mp w
            have := (hz' z hz).2
            rw [show z.2 = Dl from e, hlst] at this; cases this
          · obtain ⟨z, hz, rfl⟩ := List.mem_map.mp w
            have := (hz' z hz).1
            rw [show z.1.1 = Dl from e, hlst] at this; cases this
        have em : rs.map rowD = zs.map fun z => rowD z.1.2 := by rw [← e1, List.map_map]; rfl
        rw [em] at k
        refine k F3 ad H' _ l3 S4 ⟨Dl, rfl, hF, S.rh.fresh hD, ⟨_, hlst, rows_at fun z hz => ⟨g1 _ (List.mem_append_right _ (List.mem_map.mpr ⟨z, hz, rfl⟩)), g1 _ (List.mem_append_left _ (List.mem_map.mpr ⟨z, hz, rfl⟩))⟩⟩, fun jj hjj z => ?_⟩
        cases e : ocOf env jj with
        | none => rw [e] at hjj; cases hjj
        | some u =>
          obtain ⟨_, _, _, q4⟩ := S.oc jj u e
          obtain ⟨ob, hb⟩ := q4.has
          rw [z, hD] at hb; cases hb
  · cases hf
theorem pr_itemsC {xi xj : Str} {i j : Nat} {tp p0 p1 p2 p3 p4 p5 : Pos} {k5 : Nat} {scope : Scope} {own : List (Str × Nat)} {pos : Pos} (hc : X.calm = true) (hu : X.A.units + 64 < cLine) (hN : X.N.Nodup) (hij : i ≠ j) (hi : PE X (.Name xi p0) (tVar i)) (ok : BlkOk X.N X.env.scope scope own) (hown : own.map (·.2) = [j])
    (hg : ∀ (s : Shared) (H : Hp) (C : Addr) (cs : List (Str × Addr)) (fp : List Addr), PG (X.blk s H scope (compEnvC scope cs C X.env) fp) (.Name xj tp) (gName j))
    (h1 : ∀ (s : Shared) (H : Hp) (C : Addr) (cs : List (Str × Addr)) (fp : List Addr), PE (X.blk s H scope (compEnvC scope cs C X.env) fp) (.Name xj p1) (tVar j))
    (h2 : ∀ (s : Shared) (H : Hp) (C : Addr) (cs : List (Str × Addr)) (fp : List Addr), PE (X.blk s H scope (compEnvC scope cs C X.env) fp) (.Name xi p2) (tVar i))
    (h3 : ∀ (s : Shared) (H : Hp) (C : Addr) (cs : List (Str × Addr)) (fp : List Addr), PE (X.blk s H scope (compEnvC scope cs C X.env) fp) (.Name xj p3) (tVar j)) :
    PE X (.ListComp (.Tuple [.Name xj p1, .Subscript (.Name xi p2) (.Name xj p3) p4] k5 p5) [⟨.Name xj tp, .Name xi p0, [], 0⟩] scope pos) (tR X.K cl (itemsCS i j)) := by
  refine PE_weak (pe_lock (pe_lc (te := tTup (tCons (tVar j) (tCons (tDGet (tVar i) (tVar j)) tNil))) (g := gName j) (tt := tYes) hc hN (pi_keys hi) ok hg (fun _ _ _ _ _ => pts_nil) (fun s H C cs fp => pe_tup (pa_cons (h1 s H C cs fp) (pa_cons (pe_dget (show X.A.units + 1 < cLine by omega) (h2 s H C cs fp) (h3 s H C cs fp) (fun _ _ => rfl)) pa_nil))) (fun _ => rfl))) ?_
  rw [hown]
  exact items_red hij
/-! ### () as a tuple without dict -/
def tTupE : TE := fun σ H Q => ∀ p ob, H p = none → ob.dict = none → Q (.ref p) (upd H p (.frz ob (.tup [])))
theorem pe_tupE {x1} {pos : Pos} : PE X (.Tuple [] x1 pos) tTupE := ⟨fun pins s σ H Q I hq => by
  refine wpAny_Tuple_spliced (thn ((pa_nil (X := X)).run pos pins s σ H (fun xs H1 => xs = [] ∧ H1 = H) I ⟨rfl, rfl⟩) fun us s2 ⟨xs, H2, I2, r, z, q⟩ => ?_)
  obtain ⟨rfl, rfl⟩ : xs = [] ∧ H2 = H := by first | exact ⟨z, q⟩ | exact q
  have hl : us.length = 0 := by rw [← r.length]; rfl
  refine ⟨by rw [hl]; exact Nat.zero_le _, ?_⟩
  have new := I2.hok.fresh (Nat.le_refl s2.heap.objs.size)
  have at2 : (s2.heap.push { cls := .type "tuple", data := .seq us.toArray }).get? s2.heap.objs.size = some { cls := .type "tuple", data := .seq us.toArray } := Heap.get?_push_size _ rfl
  exact ⟨.ref s2.heap.objs.size, _, I2.laid (t' := s2.toks) (o := .frz { cls := .type "tuple", data := .seq us.toArray } (.tup [])) (fun b u w => Heap.get?_push_of_some _ w) (Nat.le_refl _) ⟨at2, Nat.zero_le _, us, r, ⟨_, at2, rfl, _, rfl⟩⟩, rfl, hq _ _ new rfl⟩⟩
def ptE : Fe := cS (.ptup [])
theorem pr_tupE {x1} {pos : Pos} : PE X (.Tuple [] x1 pos) (tR X.K cl ptE) := by
  refine PE_weak pe_tupE fun σ H Q q => fun p ob hp hd => ?_
  obtain ⟨pa, F, R, ad, env, rv, env', S, hf, k⟩ := q
  cases hf
  have g := Grow.fr (F := F) p (.frz ob (.tup [])) hp
  exact k _ ad _ (.ref p) (g.le S.fh) (S.grow g) (At.ptup upd_same hd .nil)
theorem pg_nm0 (i : Nat) {x : Str} {pos : Pos} (hN : X.N.Nodup) (hi : X.N[i]? = some x := by rfl) (hx : Loc X.env.scope x := by first | exact Or.inl rfl | exact Or.inr rfl) (hf : X.fn x = true ∨ X.env.scope.names.lookup x = some .local := by first | exact .inl rfl | exact .inr rfl) : PG X (.Name x pos) (gName i) := pg_name hN hi hx hf
end
end Z

set_option Elab.async false
set_option linter.all false
set_option maxRecDepth 100000
set_option maxHeartbeats 1000000
/-! rules that reckon with the meanings of V19 .. V24. -/
namespace Z
open PySem PySem.Spec PyProof.Rows L2
section
variable {env : En} {fo fe fx fk f : Fe} {fi : Fi} {b : Fb} {vs : List Nat} {ds : List Z.D} {ks : List (List Key)} {i j : Nat} {z : Int}
@[simp] theorem s_get1 : get1S fo fe env = (fo env).bind fun p => (rd p.2 (fz p.1)).bind fun d0 => (dtOf d0).bind fun _ => (fe p.2).bind fun q => (rd q.2 (fz p.1)).bind fun d1 => (rd q.2 (fz q.1)).bind fun dk => (dtOf d1).bind fun t => (keyD dk).bind fun k => some (.dat ((valZ t.1 t.2 k).getD .non), q.2) := rfl
@[simp] theorem s_get2 : get2S fo fe fx env = (fo env).bind fun p => (rd p.2 (fz p.1)).bind fun d0 => (dtOf d0).bind fun _ => (fe p.2).bind fun q => (fx q.2).bind fun r => (rd r.2 (fz p.1)).bind fun d1 => (rd r.2 (fz q.1)).bind fun dk => (rd r.2 (fz r.1)).bind fun dx => (dtOf d1).bind fun t => (keyD dk).bind fun k => (intOf dx).bind fun i => some (.dat ((valZ t.1 t.2 k).getD (.int i)), r.2) := rfl
@[simp] theorem s_dtOf : dtOf (.dt ks ds) = some (ks, ds) := rfl
@[simp] theorem s_disp : dispS fk f env = (fk env).bind fun p => (f p.2).bind fun q => (rd q.2 (fz p.1)).bind fun dk => (kp q.2 (fz q.1)).bind fun r => (keyD dk).bind fun k => some (.own (.dct [k] [r.1]), r.2) := rfl
@[simp] theorem s_sortIt : sortItS fo env = (fo env).bind fun p => (rd p.2 (fz p.1)).bind fun d => (dtOf d).bind fun t => (dictRows t.1 t.2).bind fun rs => if rs.length ≤ 16777216 then some (.own (.lst ((rs.mergeSort le3).map Z.rowD)), p.2) else none := rfl
@[simp] theorem s_itemsC : itemsCS i j env = (rdS env i).bind fun d => (dtOf d).bind fun t => (dictRows t.1 t.2).bind fun rs => if rs.length ≤ 16777216 ∧ t.1.Nodup ∧ j < env.length then some (.own (.lst (rs.map Z.rowD)), env) else none := rfl
@[simp] theorem s_rdS : rdS env i = (match env[i]? with | some (some (.dat d)) => some d | some (some (.own o)) => some o.d | some (some (.par o)) => some o.d | _ => none) := rfl
@[simp] theorem s_sortR : sortRG [.lst ds] = (rowsZ ds).bind fun rs => if rs.length ≤ 16777216 then some (.own (.lst ((rs.mergeSort le3).map Z.rowD))) else none := rfl
@[simp] theorem s_dictT : dictTG [.ptup ds] = if ds.length ≤ 16777216 then (prsOf ds).bind fun ps => some (.own (.dct (foldZ ps).1 (foldZ ps).2)) else none := rfl
@[simp] theorem s_tupleP : tuplePG [.lst ds] = some (.dat (.ptup ds)) := rfl
@[simp] theorem s_ptE : ptE env = some (.dat (.ptup []), env) := rfl
@[simp] theorem s_lenP : lenG [.ptup ds] = some (.dat (.int ds.length)) := rfl
@[simp] theorem s_isnp : isN (.ptup ds) = false := rfl
@[simp] theorem s_kindp : kindD (.ptup ds) = some "tuple" := rfl
@[simp] theorem s_lenSet : lenSetS fi b f vs env = (fi env).bind fun p => if p.1.length ≤ 4900 then (scGo b f vs p.1 [] p.2).bind fun q => some (.dat (.int (q.1.length : Nat)), backE p.2 q.2 vs) else none := rfl
end
end Z

set_option Elab.async false
set_option linter.all false
set_option maxRecDepth 100000
set_option maxHeartbeats 4000000
namespace K77
open PySem PySem.Spec PyProof.Rows L2 Z
def topS (i : Nat) : Stmt := PySem.Challenge.pw_counterheld_k77_whole_page_potentials.main.body.getD i (.Pass ⟨0, 0, 0, 0⟩)
abbrev st__law_pool : Stmt := topS 31
abbrev N__law_pool : List Str := ["script", "cell"]
theorem sc__law_pool : FnScope N__law_pool ["script"] (defScope st__law_pool) := ⟨rfl, rfl, rfl, by decide +kernel, rfl, by decide +kernel, by decide +kernel⟩
def e__law_pool_1 : Fe := (ifS (cmpT geG (vS 1) (cS (.int 0))) (bin2 mulG (cS (.int 2)) (vS 1)) (bin2 subG (bin2 mulG (un1 negG (cS (.int 2))) (vS 1)) (cS (.int 1))))
def b__law_pool : Fs := (retS (lstS (consL (lcS (seqI (vS 0)) (nmB 1) yesT e__law_pool_1 [1]) (consL (cS (.int 0)) (consL (cS (.int 0)) (consL (cS (.int 17)) nilL))))))
def m__law_pool : List Z.D → Option Rt := runP N__law_pool b__law_pool
abbrev st__law_take : Stmt := topS 32
abbrev N__law_take : List Str := ["pool", "many", "digit", "cell", "mixed"]
theorem sc__law_take : FnScope N__law_take ["pool", "many"] (defScope st__law_take) := ⟨rfl, rfl, rfl, by decide +kernel, rfl, by decide +kernel, by decide +kernel⟩
def b__law_take (mr : OC → List Z.D → Option (Rt × OC)) : Fs := (seqS (iffS (cmpT gtG (bin2 ixG (vS 0) (cS (.int 2))) (cS (.int 0))) (seqS (asgS 2 (bin2 modG (cbS intG (consL (bin2 ixG (vS 0) (cS (.int 2))) nilL)) (vS 1)))
    (seqS (putS 0 (cS (.int 2)) (bin2 divG (bin2 ixG (vS 0) (cS (.int 2))) (vS 1)))
    (retS (vS 2)))) doneS)
    (seqS (asgS 3 (cS (.int 0)))
    (seqS (iffS (cmpT lt3G (bin2 ixG (vS 0) (cS (.int 1))) (cbS lenG (consL (bin2 ixG (vS 0) (cS (.int 0))) nilL))) (asgS 3 (bin2 ixG (bin2 ixG (vS 0) (cS (.int 0))) (bin2 ixG (vS 0) (cS (.int 1))))) doneS)
    (seqS (putS 0 (cS (.int 1)) (bin2 addG (bin2 ixG (vS 0) (cS (.int 1))) (cS (.int 1))))
    (seqS (iffS (cmpT geG (vS 3) (bin2 powG (cS (.int 10)) (cS (.int 18)))) (seqS (putS 0 (cS (.int 2)) (bin2 divG (vS 3) (cS (.int 2))))
    (retS (callM mr 0 (consL (vS 0) (consL (vS 1) nilL))))) doneS)
    (seqS (putS 0 (cS (.int 3)) (bin2 modG (cbS intG (consL (bin2 addG (bin2 addG (bin2 mulG (bin2 ixG (vS 0) (cS (.int 3))) (cS (.int 48271))) (bin2 mulG (vS 3) (cS (.int 69621)))) (bin2 mulG (bin2 ixG (vS 0) (cS (.int 1))) (cS (.int 613)))) nilL)) (cS (.int 2147483647))))
    (seqS (asgS 4 (bin2 modG (cbS intG (consL (bin2 addG (bin2 addG (bin2 mulG (bin2 ixG (vS 0) (cS (.int 3))) (bin2 ixG (vS 0) (cS (.int 3)))) (bin2 mulG (bin2 ixG (vS 0) (cS (.int 3))) (cS (.int 7919)))) (cS (.int 104729))) nilL)) (cS (.int 1000000007))))
    (retS (bin2 modG (cbS intG (consL (bin2 divG (vS 4) (cS (.int 3))) nilL)) (vS 1))))))))))
def m__law_take : Nat → OC → List Z.D → Option (Rt × OC)
  | 0 => fun _ _ => none
  | n + 1 => runM N__law_take (b__law_take (m__law_take n))
abbrev st__law_pick : Stmt := topS 33
abbrev N__law_pick : List Str := ["pool", "rows"]
theorem sc__law_pick : FnScope N__law_pick ["pool", "rows"] (defScope st__law_pick) := ⟨rfl, rfl, rfl, by decide +kernel, rfl, by decide +kernel, by decide +kernel⟩
def b__law_pick : Fs := (retS (bin2 ixG (vS 1) (callM (m__law_take 2) 0 (consL (vS 0) (consL (cbS lenG (consL (vS 1) nilL)) nilL)))))
def m__law_pick : OC → List Z.D → Option (Rt × OC) := runM N__law_pick b__law_pick
abbrev st__law_amounts : Stmt := topS 49
abbrev N__law_amounts : List Str := ["pool"]
theorem sc__law_amounts : FnScope N__law_amounts ["pool"] (defScope st__law_amounts) := ⟨rfl, rfl, rfl, by decide +kernel, rfl, by decide +kernel, by decide +kernel⟩
def b__law_amounts : Fs := (retS (callM m__law_pick 0 (consL (vS 0) (consL (lstS (consL (tupS (consL (bin2 addG (cS (.int 1)) (callM (m__law_take 2) 0 (consL (vS 0) (consL (cS (.int 7)) nilL)))) (consL (cS (.int 3)) nilL))) (consL (tupS (consL (bin2 addG (cS (.int 1)) (callM (m__law_take 2) 0 (consL (vS 0) (consL (cS (.int 12)) nilL)))) (consL (cS (.int 6)) nilL))) (consL (tupS (consL (bin2 addG (cS (.int 20)) (callM (m__law_take 2) 0 (consL (vS 0) (consL (cS (.int 40)) nilL)))) (consL (cS (.int 9)) nilL))) (consL (tupS (consL (cS (.int 400)) (consL (cS (.int 4)) nilL))) nilL))))) nilL))))
def m__law_amounts : OC → List Z.D → Option (Rt × OC) := runM N__law_amounts b__law_amounts
abbrev st__law_lowest : Stmt := topS 37
abbrev N__law_lowest : List Str := ["n", "d", "one", "other", "turn"]
theorem sc__law_lowest : FnScope N__law_lowest ["n", "d"] (defScope st__law_lowest) := ⟨rfl, rfl, rfl, by decide +kernel, rfl, by decide +kernel, by decide +kernel⟩
def l__law_lowest_1 : Fs := (seqS (iffS (cmpT eqG (vS 3) (cS (.int 0))) brkS doneS)
    (parS 2 3 (consL (vS 3) (consL (bin2 subG (vS 2) (bin2 mulG (vS 3) (cbS intG (consL (bin2 divG (vS 2) (vS 3)) nilL)))) nilL))))
def b__law_lowest : Fs := (seqS (parS 2 3 (consL (cbS absG (consL (vS 0) nilL)) (consL (vS 1) nilL)))
    (seqS (loopS (rngI1 (consL (cS (.int 2000)) nilL)) (nmB 4) l__law_lowest_1)
    (retS (tupS (consL (bin2 divG (vS 0) (vS 2)) (consL (bin2 divG (vS 1) (vS 2)) nilL))))))
def m__law_lowest : List Z.D → Option Rt := runP N__law_lowest b__law_lowest
abbrev st__law_piece : Stmt := topS 43
abbrev N__law_piece : List Str := ["pool", "kind", "width", "part", "shrink", "stretch"]
theorem sc__law_piece : FnScope N__law_piece ["pool", "kind"] (defScope st__law_piece) := ⟨rfl, rfl, rfl, by decide +kernel, rfl, by decide +kernel, by decide +kernel⟩
def b__law_piece : Fs := (seqS (iffS (cmpT eqG (vS 1) (cS (.int 0))) (seqS (asgS 2 (bin2 addG (cS (.int 1)) (callM (m__law_take 2) 0 (consL (vS 0) (consL (cS (.int 9)) nilL)))))
    (retS (tupS (consL (tupS (consL (vS 2) (consL (cS (.int 1)) nilL))) (consL (tupS (consL (callM (m__law_take 2) 0 (consL (vS 0) (consL (cS (.int 4)) nilL))) (consL (cS (.int 1)) nilL))) (consL (tupS (consL (ifS (cmpT eqG (callM (m__law_take 2) 0 (consL (vS 0) (consL (cS (.int 2)) nilL))) (cS (.int 0))) (callM (m__law_take 2) 0 (consL (vS 0) (consL (bin2 addG (vS 2) (cS (.int 1))) nilL))) (cS (.int 0))) (consL (cS (.int 1)) nilL))) nilL)))))) doneS)
    (seqS (iffS (cmpT eqG (vS 1) (cS (.int 1))) (seqS (asgS 3 (bin2 addG (cS (.int 1)) (callM (m__law_take 2) 0 (consL (vS 0) (consL (cS (.int 12)) nilL)))))
    (seqS (asgS 2 (callM (m__law_take 2) 0 (consL (vS 0) (consL (cS (.int 40)) nilL))))
    (seqS (asgS 4 (callM (m__law_take 2) 0 (consL (vS 0) (consL (bin2 addG (vS 2) (cS (.int 1))) nilL))))
    (seqS (asgS 5 (callP m__law_lowest (consL (callM (m__law_take 2) 0 (consL (vS 0) (consL (cS (.int 20)) nilL))) (consL (bin2 addG (cS (.int 1)) (callM (m__law_take 2) 0 (consL (vS 0) (consL (cS (.int 12)) nilL)))) nilL))))
    (retS (tupS (consL (callP m__law_lowest (consL (vS 2) (consL (vS 3) nilL))) (consL (vS 5) (consL (callP m__law_lowest (consL (vS 4) (consL (vS 3) nilL))) nilL))))))))) doneS)
    (seqS (asgS 3 (bin2 addG (cS (.int 1)) (callM (m__law_take 2) 0 (consL (vS 0) (consL (cS (.int 1000)) nilL)))))
    (seqS (asgS 2 (callM (m__law_take 2) 0 (consL (vS 0) (consL (bin2 addG (bin2 powG (cS (.int 10)) (cS (.int 6))) (cS (.int 1))) nilL))))
    (seqS (asgS 4 (callM (m__law_take 2) 0 (consL (vS 0) (consL (bin2 addG (vS 2) (cS (.int 1))) nilL))))
    (retS (tupS (consL (callP m__law_lowest (consL (vS 2) (consL (vS 3) nilL))) (consL (callP m__law_lowest (consL (callM (m__law_take 2) 0 (consL (vS 0) (consL (bin2 addG (bin2 powG (cS (.int 10)) (cS (.int 6))) (cS (.int 1))) nilL))) (consL (bin2 addG (cS (.int 1)) (callM (m__law_take 2) 0 (consL (vS 0) (consL (cS (.int 1000)) nilL)))) nilL))) (consL (callP m__law_lowest (consL (vS 4) (consL (vS 3) nilL))) nilL))))))))))
def m__law_piece : OC → List Z.D → Option (Rt × OC) := runM N__law_piece b__law_piece
abbrev st__law_pieces : Stmt := topS 44
abbrev N__law_pieces : List Str := ["pool", "many", "kind", "rigid", "found", "k", "piece"]
theorem sc__law_pieces : FnScope N__law_pieces ["pool", "many"] (defScope st__law_pieces) := ⟨rfl, rfl, rfl, by decide +kernel, rfl, by decide +kernel, by decide +kernel⟩
def l__law_pieces_1 : Fs := (seqS (asgS 6 (callM m__law_piece 0 (consL (vS 0) (consL (vS 2) nilL))))
    (seqS (iffS (andT (cmpT eqG (vS 3) (cS (.int 0))) (cmpT eqG (callM (m__law_take 2) 0 (consL (vS 0) (consL (cS (.int 2)) nilL))) (cS (.int 0)))) (asgS 6 (tupS (consL (bin2 ixG (vS 6) (cS (.int 0))) (consL (tupS (consL (cS (.int 0)) (consL (cS (.int 1)) nilL))) (consL (bin2 ixG (vS 6) (cS (.int 2))) nilL))))) doneS)
    (asgS 4 (bin2 addG (vS 4) (tupS (consL (vS 6) nilL))))))
def b__law_pieces : Fs := (seqS (asgS 2 (callM (m__law_take 2) 0 (consL (vS 0) (consL (cS (.int 3)) nilL))))
    (seqS (asgS 3 (callM (m__law_take 2) 0 (consL (vS 0) (consL (cS (.int 3)) nilL))))
    (seqS (asgS 4 (tupS nilL))
    (seqS (loopS (rngI1 (consL (vS 1) nilL)) (nmB 5) l__law_pieces_1)
    (retS (vS 4))))))
def m__law_pieces : OC → List Z.D → Option (Rt × OC) := runM N__law_pieces b__law_pieces
abbrev st__law_sum : Stmt := topS 38
abbrev N__law_sum : List Str := ["one", "other"]
theorem sc__law_sum : FnScope N__law_sum ["one", "other"] (defScope st__law_sum) := ⟨rfl, rfl, rfl, by decide +kernel, rfl, by decide +kernel, by decide +kernel⟩
def b__law_sum : Fs := (retS (callP m__law_lowest (consL (bin2 addG (bin2 mulG (bin2 ixG (vS 0) (cS (.int 0))) (bin2 ixG (vS 1) (cS (.int 1)))) (bin2 mulG (bin2 ixG (vS 1) (cS (.int 0))) (bin2 ixG (vS 0) (cS (.int 1))))) (consL (bin2 mulG (bin2 ixG (vS 0) (cS (.int 1))) (bin2 ixG (vS 1) (cS (.int 1)))) nilL))))
def m__law_sum : List Z.D → Option Rt := runP N__law_sum b__law_sum
abbrev st__law_room : Stmt := topS 45
abbrev N__law_room : List Str := ["pool", "pieces", "most", "first", "room", "piece", "wider", "kind"]
theorem sc__law_room : FnScope N__law_room ["pool", "pieces", "most"] (defScope st__law_room) := ⟨rfl, rfl, rfl, by decide +kernel, rfl, by decide +kernel, by decide +kernel⟩
def l__law_room_1 : Fs := (seqS (asgS 6 (callP m__law_sum (consL (vS 4) (consL (bin2 ixG (vS 5) (cS (.int 0))) nilL))))
    (iffS (andT (cmpT leG (bin2 ixG (vS 6) (cS (.int 0))) (bin2 powG (cS (.int 10)) (cS (.int 6)))) (cmpT leG (bin2 ixG (vS 6) (cS (.int 1))) (cS (.int 1000)))) (asgS 4 (vS 6)) doneS))
def b__law_room : Fs := (seqS (asgS 3 (callM (m__law_take 2) 0 (consL (vS 0) (consL (cbS lenG (consL (vS 1) nilL)) nilL))))
    (seqS (asgS 4 (tupS (consL (cS (.int 0)) (consL (cS (.int 1)) nilL))))
    (seqS (loopS (seqI (slS (vS 1) (soO (vS 3)) (soO (bin2 addG (bin2 addG (vS 3) (cS (.int 1))) (callM (m__law_take 2) 0 (consL (vS 0) (consL (vS 2) nilL))))))) (nmB 5) l__law_room_1)
    (seqS (asgS 7 (callM (m__law_take 2) 0 (consL (vS 0) (consL (cS (.int 4)) nilL))))
    (seqS (iffS (cmpT eqG (vS 7) (cS (.int 0))) (asgS 4 (tupS (consL (bin2 addG (bin2 divG (bin2 ixG (vS 4) (cS (.int 0))) (bin2 ixG (vS 4) (cS (.int 1)))) (callM (m__law_take 2) 0 (consL (vS 0) (consL (cS (.int 3)) nilL)))) (consL (cS (.int 1)) nilL)))) doneS)
    (seqS (iffS (andT (cmpT eqG (vS 7) (cS (.int 1))) (cmpT eqG (bin2 ixG (vS 4) (cS (.int 1))) (cS (.int 1)))) (asgS 4 (callP m__law_lowest (consL (bin2 addG (bin2 mulG (cS (.int 2)) (bin2 ixG (vS 4) (cS (.int 0)))) (cS (.int 1))) (consL (cS (.int 2)) nilL)))) doneS)
    (seqS (iffS (orT (cmpT eqG (bin2 ixG (vS 4) (cS (.int 0))) (cS (.int 0))) (cmpT gtG (bin2 ixG (vS 4) (cS (.int 0))) (bin2 powG (cS (.int 10)) (cS (.int 6))))) (retS (tupS (consL (cS (.int 1)) (consL (cS (.int 1)) nilL)))) doneS)
    (retS (vS 4)))))))))
def m__law_room : OC → List Z.D → Option (Rt × OC) := runM N__law_room b__law_room
abbrev st__law_bad : Stmt := topS 47
abbrev N__law_bad : List Str := ["scaled", "first", "stop", "sums", "room", "width", "part"]
theorem sc__law_bad : FnScope N__law_bad ["scaled", "first", "stop"] (defScope st__law_bad) := ⟨rfl, rfl, rfl, by decide +kernel, rfl, by decide +kernel, by decide +kernel⟩
def b__law_bad : Fs := (seqS (asgT (tupB 2 (consB (nmB 3) (consB (nmB 4) nilB))) (vS 0))
    (seqS (asgS 5 (bin2 subG (bin2 ixG (bin2 ixG (vS 3) (vS 2)) (cS (.int 0))) (bin2 ixG (bin2 ixG (vS 3) (vS 1)) (cS (.int 0)))))
    (seqS (iffS (orT (cmpT eqG (vS 5) (vS 4)) (andT (cmpT lt3G (vS 5) (vS 4)) (cmpT eqG (vS 2) (bin2 subG (cbS lenG (consL (vS 3) nilL)) (cS (.int 1)))))) (retS (cS (.int 0))) doneS)
    (seqS (asgS 6 (bin2 subG (bin2 ixG (bin2 ixG (vS 3) (vS 2)) (cS (.int 1))) (bin2 ixG (bin2 ixG (vS 3) (vS 1)) (cS (.int 1)))))
    (seqS (iffS (cmpT gtG (vS 5) (vS 4)) (seqS (asgS 6 (bin2 subG (bin2 ixG (bin2 ixG (vS 3) (vS 2)) (cS (.int 2))) (bin2 ixG (bin2 ixG (vS 3) (vS 1)) (cS (.int 2)))))
    (iffS (cmpT gtG (bin2 subG (vS 5) (vS 6)) (vS 4)) (retS (cS .non)) doneS)) doneS)
    (seqS (iffS (cmpT eqG (vS 6) (cS (.int 0))) (retS (cS .non)) doneS)
    (retS (bin2 divG (bin2 mulG (bin2 mulG (cS (.int 1000)) (bin2 subG (vS 5) (vS 4))) (bin2 subG (vS 5) (vS 4))) (bin2 mulG (vS 6) (vS 6))))))))))
def m__law_bad : List Z.D → Option Rt := runP N__law_bad b__law_bad
abbrev st__law_fitting : Stmt := topS 48
abbrev N__law_fitting : List Str := ["scaled", "found", "many", "first", "row", "stop", "bad"]
theorem sc__law_fitting : FnScope N__law_fitting ["scaled"] (defScope st__law_fitting) := ⟨rfl, rfl, rfl, by decide +kernel, rfl, by decide +kernel, by decide +kernel⟩
def l__law_fitting_1 : Fs := (seqS (iffS (cmpT gtG (bin2 addG (bin2 subG (bin2 subG (bin2 ixG (bin2 ixG (bin2 ixG (vS 0) (cS (.int 0))) (vS 5)) (cS (.int 0))) (bin2 ixG (bin2 ixG (bin2 ixG (vS 0) (cS (.int 0))) (vS 3)) (cS (.int 0)))) (bin2 ixG (bin2 ixG (bin2 ixG (vS 0) (cS (.int 0))) (vS 5)) (cS (.int 2)))) (bin2 ixG (bin2 ixG (bin2 ixG (vS 0) (cS (.int 0))) (vS 3)) (cS (.int 2)))) (bin2 ixG (vS 0) (cS (.int 1)))) brkS doneS)
    (seqS (asgS 6 (callP m__law_bad (consL (vS 0) (consL (vS 3) (consL (vS 5) nilL)))))
    (iffS (isS true (vS 6)) (appS 4 (tupS (consL (vS 5) (consL (vS 6) nilL)))) doneS)))
def l__law_fitting_2 : Fs := (seqS (asgS 4 (lstS nilL))
    (seqS (loopS (rngI2 (consL (bin2 addG (vS 3) (cS (.int 1))) (consL (bin2 addG (vS 2) (cS (.int 1))) nilL))) (nmB 5) l__law_fitting_1)
    (appS 1 (vS 4))))
def b__law_fitting : Fs := (seqS (asgS 1 (lstS nilL))
    (seqS (asgS 2 (bin2 subG (cbS lenG (consL (bin2 ixG (vS 0) (cS (.int 0))) nilL)) (cS (.int 1))))
    (seqS (loopS (rngI1 (consL (vS 2) nilL)) (nmB 3) l__law_fitting_2)
    (retS (vS 1)))))
def m__law_fitting : List Z.D → Option Rt := runP N__law_fitting b__law_fitting
abbrev st__law_below : Stmt := topS 34
abbrev N__law_below : List Str := ["pool", "many", "found", "turn"]
theorem sc__law_below : FnScope N__law_below ["pool", "many"] (defScope st__law_below) := ⟨rfl, rfl, rfl, by decide +kernel, rfl, by decide +kernel, by decide +kernel⟩
def l__law_below_1 : Fs := (asgS 2 (bin2 addG (bin2 mulG (vS 2) (bin2 powG (cS (.int 10)) (cS (.int 6)))) (callM (m__law_take 2) 0 (consL (vS 0) (consL (bin2 powG (cS (.int 10)) (cS (.int 6))) nilL)))))
def b__law_below : Fs := (seqS (asgS 2 (cS (.int 0)))
    (seqS (loopS (rngI1 (consL (cS (.int 5)) nilL)) (nmB 3) l__law_below_1)
    (retS (bin2 modG (cbS intG (consL (vS 2) nilL)) (vS 1)))))
def m__law_below : OC → List Z.D → Option (Rt × OC) := runM N__law_below b__law_below
abbrev st__law_turn_costs : Stmt := topS 50
abbrev N__law_turn_costs : List Str := ["pool", "many", "top", "k"]
theorem sc__law_turn_costs : FnScope N__law_turn_costs ["pool", "many"] (defScope st__law_turn_costs) := ⟨rfl, rfl, rfl, by decide +kernel, rfl, by decide +kernel, by decide +kernel⟩
def e__law_turn_costs_1 : Fe := (ifS (cmpT eqG (callM (m__law_take 2) 0 (consL (vS 0) (consL (cS (.int 6)) nilL))) (cS (.int 0))) (cS .non) (callM m__law_below 0 (consL (vS 0) (consL (vS 2) nilL))))
def b__law_turn_costs : Fs := (seqS (asgS 2 (callM m__law_pick 0 (consL (vS 0) (consL (lstS (consL (cS (.int 1)) (consL (cS (.int 5)) (consL (cS (.int 1000)) (consL (bin2 addG (bin2 powG (cS (.int 10)) (cS (.int 9))) (cS (.int 1))) nilL))))) nilL))))
    (retS (cbS tupleG (consL (lcS (rngI1 (consL (vS 1) nilL)) (nmB 3) yesT e__law_turn_costs_1 [3]) nilL))))
def m__law_turn_costs : OC → List Z.D → Option (Rt × OC) := runM N__law_turn_costs b__law_turn_costs
abbrev st__law_steps : Stmt := topS 51
abbrev N__law_steps : List Str := ["lines", "pages", "place", "turns", "least", "most", "first", "many", "found", "stop", "bad"]
theorem sc__law_steps : FnScope N__law_steps ["lines", "pages", "place"] (defScope st__law_steps) := ⟨rfl, rfl, rfl, by decide +kernel, rfl, by decide +kernel, by decide +kernel⟩
def e__law_steps_1 : Fe := (tupS (consL (tupS (consL (vS 9) (consL (bin2 addG (vS 7) (cS (.int 1))) nilL))) (consL (vS 10) nilL)))
def b__law_steps : Fs := (seqS (asgT (tupB 3 (consB (nmB 3) (consB (nmB 4) (consB (nmB 5) nilB)))) (vS 1))
    (seqS (asgT (tupB 2 (consB (nmB 6) (consB (nmB 7) nilB))) (vS 2))
    (seqS (iffS (cmpT eqG (vS 6) (cbS lenG (consL (vS 0) nilL))) (retS (lstS nilL)) doneS)
    (seqS (asgS 8 (lstS nilL))
    (seqS (iffS (andT (cmpT geG (vS 7) (vS 4)) (isS true (bin2 ixG (vS 3) (vS 6)))) (appS 8 (tupS (consL (tupS (consL (vS 6) (consL (cS (.int 0)) nilL))) (consL (bin2 ixG (vS 3) (vS 6)) nilL)))) doneS)
    (seqS (iffS (cmpT lt3G (vS 7) (vS 5)) (asgS 8 (bin2 addG (vS 8) (lcS (seqI (bin2 ixG (vS 0) (vS 6))) (tupB 2 (consB (nmB 9) (consB (nmB 10) nilB))) yesT e__law_steps_1 [9, 10]))) doneS)
    (retS (vS 8))))))))
def m__law_steps : List Z.D → Option Rt := runP N__law_steps b__law_steps
abbrev st__law_least : Stmt := topS 52
abbrev N__law_least : List Str := ["lines", "pages", "found", "first", "many", "place", "cost", "spent"]
theorem sc__law_least : FnScope N__law_least ["lines", "pages"] (defScope st__law_least) := ⟨rfl, rfl, rfl, by decide +kernel, rfl, by decide +kernel, by decide +kernel⟩
def l__law_least_1 : Fs := (seqS (asgS 7 (bin2 addG (bin2 dgG (vS 2) (tupS (consL (vS 3) (consL (vS 4) nilL)))) (vS 6)))
    (iffS (orT (cmpT (diG true) (vS 5) (vS 2)) (cmpT lt3G (vS 7) (bin2 dgG (vS 2) (vS 5)))) (putDS 2 (vS 5) (vS 7)) doneS))
def l__law_least_2 : Fs := (iffS (cmpT (diG false) (tupS (consL (vS 3) (consL (vS 4) nilL))) (vS 2)) (loopS (seqI (callP m__law_steps (consL (vS 0) (consL (vS 1) (consL (tupS (consL (vS 3) (consL (vS 4) nilL))) nilL))))) (tupB 2 (consB (nmB 5) (consB (nmB 6) nilB))) l__law_least_1) doneS)
def l__law_least_3 : Fs := (loopS (rngI3 (consL (bin2 ixG (vS 1) (cS (.int 2))) (consL (un1 negG (cS (.int 1))) (consL (un1 negG (cS (.int 1))) nilL)))) (nmB 4) l__law_least_2)
def b__law_least : Fs := (seqS (asgS 2 (dispS (tupS (consL (cS (.int 0)) (consL (cS (.int 0)) nilL))) (cS (.int 0))))
    (seqS (loopS (rngI1 (consL (cbS lenG (consL (vS 0) nilL)) nilL)) (nmB 3) l__law_least_3)
    (retS (vS 2))))
def m__law_least : List Z.D → Option Rt := runP N__law_least b__law_least
abbrev st_Pages_places : Stmt := inClass (topS 24) 4
abbrev N_Pages_places : List Str := ["self", "found", "at", "many"]
theorem sc_Pages_places : FnScope N_Pages_places ["self"] (defScope st_Pages_places) := ⟨rfl, rfl, rfl, by decide +kernel, rfl, by decide +kernel, by decide +kernel⟩
def e_Pages_places_1 : Fe := (tupS (consL (vS 2) (consL (vS 3) nilL)))
def l_Pages_places_1 : Fs := (extS 1 (lcS (rngI3 (consL (fldS "Pages" "most" (vS 0)) (consL (un1 negG (cS (.int 1))) (consL (un1 negG (cS (.int 1))) nilL)))) (nmB 3) yesT e_Pages_places_1 [3]))
def b_Pages_places : Fs := (seqS (asgS 1 (lstS nilL))
    (seqS (loopS (rngI1 (consL (bin2 addG (fldS "Pages" "many" (vS 0)) (cS (.int 1))) nilL)) (nmB 2) l_Pages_places_1)
    (retS (vS 1))))
def m_Pages_places : List Z.D → Option Rt := runP N_Pages_places b_Pages_places
abbrev st_Pages_turn : Stmt := inClass (topS 24) 1
abbrev N_Pages_turn : List Str := ["self", "place", "at", "many"]
theorem sc_Pages_turn : FnScope N_Pages_turn ["self", "place"] (defScope st_Pages_turn) := ⟨rfl, rfl, rfl, by decide +kernel, rfl, by decide +kernel, by decide +kernel⟩
def b_Pages_turn : Fs := (seqS (asgT (tupB 2 (consB (nmB 2) (consB (nmB 3) nilB))) (vS 1))
    (retS (ifS (andT (cmpT geG (vS 3) (fldS "Pages" "least" (vS 0))) (cmpT lt3G (vS 2) (fldS "Pages" "many" (vS 0)))) (bin2 ixG (fldS "Pages" "turns" (vS 0)) (vS 2)) (cS .non))))
def m_Pages_turn : List Z.D → Option Rt := runP N_Pages_turn b_Pages_turn
abbrev st_Pages_by_lines : Stmt := inClass (topS 24) 2
abbrev N_Pages_by_lines : List Str := ["self", "place", "at", "many", "stop", "bad"]
theorem sc_Pages_by_lines : FnScope N_Pages_by_lines ["self", "place"] (defScope st_Pages_by_lines) := ⟨rfl, rfl, rfl, by decide +kernel, rfl, by decide +kernel, by decide +kernel⟩
def e_Pages_by_lines_1 : Fe := (tupS (consL (tupS (consL (vS 4) (consL (bin2 addG (vS 3) (cS (.int 1))) nilL))) (consL (vS 5) nilL)))
def b_Pages_by_lines : Fs := (seqS (asgT (tupB 2 (consB (nmB 2) (consB (nmB 3) nilB))) (vS 1))
    (seqS (iffS (orT (cmpT eqG (vS 2) (fldS "Pages" "many" (vS 0))) (cmpT eqG (vS 3) (fldS "Pages" "most" (vS 0)))) (retS (lstS nilL)) doneS)
    (retS (lcS (seqI (bin2 ixG (fldS "Pages" "_from" (vS 0)) (vS 2))) (tupB 2 (consB (nmB 4) (consB (nmB 5) nilB))) yesT e_Pages_by_lines_1 [4, 5]))))
def m_Pages_by_lines : List Z.D → Option Rt := runP N_Pages_by_lines b_Pages_by_lines
abbrev st_Pages_following : Stmt := inClass (topS 24) 3
abbrev N_Pages_following : List Str := ["self", "place", "cost", "ahead"]
theorem sc_Pages_following : FnScope N_Pages_following ["self", "place"] (defScope st_Pages_following) := ⟨rfl, rfl, rfl, by decide +kernel, rfl, by decide +kernel, by decide +kernel⟩
def b_Pages_following : Fs := (seqS (asgS 2 (methS "Pages" "turn" m_Pages_turn (vS 0) (consL (vS 1) nilL)))
    (seqS (asgS 3 (ifS (isS false (vS 2)) (lstS nilL) (lstS (consL (tupS (consL (tupS (consL (bin2 ixG (vS 1) (cS (.int 0))) (consL (cS (.int 0)) nilL))) (consL (vS 2) nilL))) nilL))))
    (retS (bin2 addG (vS 3) (methS "Pages" "by_lines" m_Pages_by_lines (vS 0) (consL (vS 1) nilL))))))
def m_Pages_following : List Z.D → Option Rt := runP N_Pages_following b_Pages_following
abbrev st_best_behind : Stmt := topS 25
abbrev N_best_behind : List Str := ["pages", "found", "place", "best", "behind", "cost", "rank", "is_turn", "mine"]
theorem sc_best_behind : FnScope N_best_behind ["pages"] (defScope st_best_behind) := ⟨rfl, rfl, rfl, by decide +kernel, rfl, by decide +kernel, by decide +kernel⟩
def l_best_behind_1 : Fs := (iffS (cmpT (diG false) (vS 4) (vS 1)) (seqS (asgS 6 (bin2 ixG (bin2 dgG (vS 1) (vS 4)) (cS (.int 0))))
    (seqS (asgS 7 (bin2 (bRes eqG) (bin2 ixG (vS 4) (cS (.int 0))) (bin2 ixG (vS 2) (cS (.int 0)))))
    (seqS (asgS 8 (tupS (consL (bin2 addG (bin2 ixG (vS 6) (cS (.int 0))) (vS 5)) (consL (bin2 addG (bin2 ixG (vS 6) (cS (.int 1))) (cbS intG (consL (vS 7) nilL))) (consL (bin2 addG (bin2 ixG (vS 6) (cS (.int 2))) (cbS intG (consL (notS (vS 7)) nilL))) nilL)))))
    (iffS (orT (isS false (vS 3)) (cmpT lt3G (vS 8) (bin2 ixG (vS 3) (cS (.int 0))))) (asgS 3 (tupS (consL (vS 8) (consL (vS 4) nilL)))) doneS)))) doneS)
def l_best_behind_2 : Fs := (seqS (asgS 3 (cS .non))
    (seqS (iffS (andT (cmpT eqG (bin2 ixG (vS 2) (cS (.int 0))) (fldS "Pages" "many" (vS 0))) (cmpT gtG (bin2 ixG (vS 2) (cS (.int 1))) (cS (.int 0)))) (asgS 3 (tupS (consL (tupS (consL (cS (.int 0)) (consL (cS (.int 0)) (consL (cS (.int 0)) nilL)))) (consL (cS .non) nilL)))) doneS)
    (seqS (loopS (seqI (methS "Pages" "following" m_Pages_following (vS 0) (consL (vS 2) nilL))) (tupB 2 (consB (nmB 4) (consB (nmB 5) nilB))) l_best_behind_1)
    (iffS (isS true (vS 3)) (putDS 1 (vS 2) (vS 3)) doneS))))
def b_best_behind : Fs := (seqS (asgS 1 newDS)
    (seqS (loopS (seqI (revS (methS "Pages" "places" m_Pages_places (vS 0) nilL))) (nmB 2) l_best_behind_2)
    (retS (vS 1))))
def m_best_behind : List Z.D → Option Rt := runP N_best_behind b_best_behind
abbrev st_is_fraction : Stmt := topS 4
abbrev N_is_fraction : List Str := ["value", "part"]
theorem sc_is_fraction : FnScope N_is_fraction ["value"] (defScope st_is_fraction) := ⟨rfl, rfl, rfl, by decide +kernel, rfl, by decide +kernel, by decide +kernel⟩
def e_is_fraction_1 : Fe := (orS (cbS isiG (consL (vS 1) (consL (cS (.ty "bool")) nilL))) (notS (cbS isiG (consL (vS 1) (consL (cS (.ty "int")) nilL)))))
def b_is_fraction : Fs := (seqS (iffS (orT (notT (truS (cbS isiG (consL (vS 0) (consL (tupS (consL (cS (.ty "tuple")) (consL (cS (.ty "list")) nilL))) nilL))))) (cmpT neG (cbS lenG (consL (vS 0) nilL)) (cS (.int 2)))) (retS (cS (.bl false))) doneS)
    (seqS (iffS (truS (cbS anyG (consL (lcS (seqI (vS 0)) (nmB 1) yesT e_is_fraction_1 [1]) nilL))) (retS (cS (.bl false))) doneS)
    (retS (andS (bin2 (bRes gtG) (bin2 ixG (vS 0) (cS (.int 1))) (cS (.int 0))) (bin2 (bRes eqG) (cbS gcdG (consL (bin2 ixG (vS 0) (cS (.int 0))) (consL (bin2 ixG (vS 0) (cS (.int 1))) nilL))) (cS (.int 1)))))))
def m_is_fraction : List Z.D → Option Rt := runP N_is_fraction b_is_fraction
abbrev st_is_part : Stmt := topS 16
abbrev N_is_part : List Str := ["value"]
theorem sc_is_part : FnScope N_is_part ["value"] (defScope st_is_part) := ⟨rfl, rfl, rfl, by decide +kernel, rfl, by decide +kernel, by decide +kernel⟩
def b_is_part : Fs := (retS (andS (callP m_is_fraction (consL (vS 0) nilL)) (andS (tV (chn leG leG (cS (.int 0)) (bin2 ixG (vS 0) (cS (.int 0))) (cS (.int 1000000)))) (bin2 (bRes leG) (bin2 ixG (vS 0) (cS (.int 1))) (cS (.int 1000))))))
def m_is_part : List Z.D → Option Rt := runP N_is_part b_is_part
abbrev st_is_piece : Stmt := topS 17
abbrev N_is_piece : List Str := ["value", "part"]
theorem sc_is_piece : FnScope N_is_piece ["value"] (defScope st_is_piece) := ⟨rfl, rfl, rfl, by decide +kernel, rfl, by decide +kernel, by decide +kernel⟩
def e_is_piece_1 : Fe := (callP m_is_part (consL (vS 1) nilL))
def b_is_piece : Fs := (seqS (iffS (orT (notT (truS (cbS isiG (consL (vS 0) (consL (tupS (consL (cS (.ty "tuple")) (consL (cS (.ty "list")) nilL))) nilL))))) (orT (cmpT neG (cbS lenG (consL (vS 0) nilL)) (cS (.int 3))) (notT (truS (cbS allG (consL (lcS (seqI (vS 0)) (nmB 1) yesT e_is_piece_1 [1]) nilL)))))) (retS (cS (.bl false))) doneS)
    (retS (bin2 (bRes leG) (bin2 mulG (bin2 ixG (bin2 ixG (vS 0) (cS (.int 2))) (cS (.int 0))) (bin2 ixG (bin2 ixG (vS 0) (cS (.int 0))) (cS (.int 1)))) (bin2 mulG (bin2 ixG (bin2 ixG (vS 0) (cS (.int 0))) (cS (.int 0))) (bin2 ixG (bin2 ixG (vS 0) (cS (.int 2))) (cS (.int 1)))))))
def m_is_piece : List Z.D → Option Rt := runP N_is_piece b_is_piece
abbrev st_check_pieces : Stmt := topS 18
abbrev N_check_pieces : List Str := ["pieces", "number", "piece"]
theorem sc_check_pieces : FnScope N_check_pieces ["pieces"] (defScope st_check_pieces) := ⟨rfl, rfl, rfl, by decide +kernel, rfl, by decide +kernel, by decide +kernel⟩
def l_check_pieces_1 : Fs := (iffS (notT (truS (callP m_is_piece (consL (vS 2) nilL)))) noS doneS)
def b_check_pieces : Fs := (seqS (iffS (orT (notT (truS (cbS isiG (consL (vS 0) (consL (tupS (consL (cS (.ty "tuple")) (consL (cS (.ty "list")) nilL))) nilL))))) (notT (chn leG leG (cS (.int 1)) (cbS lenG (consL (vS 0) nilL)) (cS (.int 400))))) noS doneS)
    (loopS (enmI (consL (vS 0) nilL)) (tupB 2 (consB (nmB 1) (consB (nmB 2) nilB))) l_check_pieces_1))
def m_check_pieces : List Z.D → Option Rt := runP N_check_pieces b_check_pieces
abbrev st_Lines : Stmt := inClass (topS 19) 0
abbrev N_Lines : List Str := ["self", "pieces", "room", "common", "piece", "part", "width", "stretch", "shrink", "ahead", "Lines._sums"]
theorem sc_Lines : FnScope N_Lines ["self", "pieces", "room"] (defScope st_Lines) := ⟨rfl, rfl, rfl, by decide +kernel, rfl, by decide +kernel, by decide +kernel⟩
theorem gh_Lines__sums : (defScope st_Lines).names.lookup ("Lines._sums" : Str) = none := by decide +kernel
def l_Lines_1 : Fs := (asgS 3 (cbS lcmG (consL (vS 3) (consL (bin2 ixG (vS 5) (cS (.int 1))) nilL))))
def l_Lines_2 : Fs := (loopS (seqI (vS 4)) (nmB 5) l_Lines_1)
def e_Lines_1 : Fe := (bin2 mulG (bin2 ixG (vS 5) (cS (.int 0))) (bin2 divG (vS 3) (bin2 ixG (vS 5) (cS (.int 1)))))
def l_Lines_3 : Fs := (seqS (asgT (tupB 3 (consB (nmB 6) (consB (nmB 7) (consB (nmB 8) nilB)))) (lcS (seqI (vS 4)) (nmB 5) yesT e_Lines_1 [5]))
    (seqS (asgS 9 (bin2 ixG (selfS "Lines" "_sums") (un1 negG (cS (.int 1)))))
    (selfAppS "Lines" "_sums" (tupS (consL (bin2 addG (bin2 ixG (vS 9) (cS (.int 0))) (vS 6)) (consL (bin2 addG (bin2 ixG (vS 9) (cS (.int 1))) (vS 7)) (consL (bin2 addG (bin2 ixG (vS 9) (cS (.int 2))) (vS 8)) nilL)))))))
def b_Lines : Fs := (seqS (dropS (callP m_check_pieces (consL (vS 1) nilL)))
    (seqS (iffS (orT (notT (truS (callP m_is_part (consL (vS 2) nilL)))) (cmpT eqG (bin2 ixG (vS 2) (cS (.int 0))) (cS (.int 0)))) noS doneS)
    (seqS (asgS 3 (bin2 ixG (vS 2) (cS (.int 1))))
    (seqS (loopS (seqI (vS 1)) (nmB 4) l_Lines_2)
    (seqS (zsetS "Lines" "many" (cbS lenG (consL (vS 1) nilL)))
    (seqS (zsetS "Lines" "room" (bin2 mulG (bin2 ixG (vS 2) (cS (.int 0))) (bin2 divG (vS 3) (bin2 ixG (vS 2) (cS (.int 1))))))
    (seqS (zlnkS "Lines" "_sums" 10 (lstS (consL (tupS (consL (cS (.int 0)) (consL (cS (.int 0)) (consL (cS (.int 0)) nilL)))) nilL)))
    (seqS (loopS (seqI (vS 1)) (nmB 4) l_Lines_3)
    doneS))))))))
def m_Lines : List Z.D → Option (List Str × List Z.D) := runI N_Lines b_Lines "Lines"
abbrev st_Lines_badness : Stmt := inClass (topS 19) 1
abbrev N_Lines_badness : List Str := ["self", "first", "stop", "width", "stretch", "shrink", "k", "short"]
theorem sc_Lines_badness : FnScope N_Lines_badness ["self", "first", "stop"] (defScope st_Lines_badness) := ⟨rfl, rfl, rfl, by decide +kernel, rfl, by decide +kernel, by decide +kernel⟩
def e_Lines_badness_1 : Fe := (bin2 subG (bin2 ixG (bin2 ixG (fldS "Lines" "_sums" (vS 0)) (vS 2)) (vS 6)) (bin2 ixG (bin2 ixG (fldS "Lines" "_sums" (vS 0)) (vS 1)) (vS 6)))
def b_Lines_badness : Fs := (seqS (asgT (tupB 3 (consB (nmB 3) (consB (nmB 4) (consB (nmB 5) nilB)))) (lcS (rngI1 (consL (cS (.int 3)) nilL)) (nmB 6) yesT e_Lines_badness_1 [6]))
    (seqS (asgS 7 (bin2 subG (fldS "Lines" "room" (vS 0)) (vS 3)))
    (seqS (iffS (orT (cmpT eqG (vS 7) (cS (.int 0))) (andT (cmpT gtG (vS 7) (cS (.int 0))) (cmpT eqG (vS 2) (fldS "Lines" "many" (vS 0))))) (retS (cS (.int 0))) doneS)
    (seqS (iffS (cmpT gtG (vS 7) (cS (.int 0))) (retS (ifS (cmpT gtG (vS 4) (cS (.int 0))) (bin2 divG (bin2 mulG (bin2 mulG (cS (.int 1000)) (vS 7)) (vS 7)) (bin2 mulG (vS 4) (vS 4))) (cS .non))) doneS)
    (retS (ifS (cmpT geG (bin2 addG (vS 5) (vS 7)) (cS (.int 0))) (bin2 divG (bin2 mulG (bin2 mulG (cS (.int 1000)) (vS 7)) (vS 7)) (bin2 mulG (vS 5) (vS 5))) (cS .non)))))))
def m_Lines_badness : List Z.D → Option Rt := runP N_Lines_badness b_Lines_badness
abbrev st_Lines_from_piece : Stmt := inClass (topS 19) 2
abbrev N_Lines_from_piece : List Str := ["self", "first", "found", "ahead", "stop", "behind", "bad"]
theorem sc_Lines_from_piece : FnScope N_Lines_from_piece ["self", "first"] (defScope st_Lines_from_piece) := ⟨rfl, rfl, rfl, by decide +kernel, rfl, by decide +kernel, by decide +kernel⟩
def l_Lines_from_piece_1 : Fs := (seqS (asgS 5 (bin2 ixG (fldS "Lines" "_sums" (vS 0)) (vS 4)))
    (seqS (iffS (cmpT gtG (bin2 subG (bin2 subG (bin2 ixG (vS 5) (cS (.int 0))) (bin2 ixG (vS 3) (cS (.int 0)))) (bin2 subG (bin2 ixG (vS 5) (cS (.int 2))) (bin2 ixG (vS 3) (cS (.int 2))))) (fldS "Lines" "room" (vS 0))) brkS doneS)
    (seqS (asgS 6 (methS "Lines" "badness" m_Lines_badness (vS 0) (consL (vS 1) (consL (vS 4) nilL))))
    (iffS (isS true (vS 6)) (appS 2 (tupS (consL (vS 4) (consL (vS 6) nilL)))) doneS))))
def b_Lines_from_piece : Fs := (seqS (asgS 2 (lstS nilL))
    (seqS (asgS 3 (bin2 ixG (fldS "Lines" "_sums" (vS 0)) (vS 1)))
    (seqS (loopS (rngI2 (consL (bin2 addG (vS 1) (cS (.int 1))) (consL (bin2 addG (fldS "Lines" "many" (vS 0)) (cS (.int 1))) nilL))) (nmB 4) l_Lines_from_piece_1)
    (retS (vS 2)))))
def m_Lines_from_piece : List Z.D → Option Rt := runP N_Lines_from_piece b_Lines_from_piece
abbrev st_is_whole : Stmt := topS 6
abbrev N_is_whole : List Str := ["value"]
theorem sc_is_whole : FnScope N_is_whole ["value"] (defScope st_is_whole) := ⟨rfl, rfl, rfl, by decide +kernel, rfl, by decide +kernel, by decide +kernel⟩
def b_is_whole : Fs := (retS (andS (cbS isiG (consL (vS 0) (consL (cS (.ty "int")) nilL))) (notS (cbS isiG (consL (vS 0) (consL (cS (.ty "bool")) nilL))))))
def m_is_whole : List Z.D → Option Rt := runP N_is_whole b_is_whole
abbrev st_is_number : Stmt := topS 8
abbrev N_is_number : List Str := ["value", "many"]
theorem sc_is_number : FnScope N_is_number ["value", "many"] (defScope st_is_number) := ⟨rfl, rfl, rfl, by decide +kernel, rfl, by decide +kernel, by decide +kernel⟩
def b_is_number : Fs := (retS (andS (callP m_is_whole (consL (vS 0) nilL)) (tV (chn leG lt3G (cS (.int 0)) (vS 0) (vS 1)))))
def m_is_number : List Z.D → Option Rt := runP N_is_number b_is_number
abbrev st_Pages : Stmt := inClass (topS 24) 0
abbrev N_Pages : List Str := ["self", "pieces", "room", "turns", "least", "most", "turn", "first"]
theorem sc_Pages : FnScope N_Pages ["self", "pieces", "room", "turns", "least", "most"] (defScope st_Pages) := ⟨rfl, rfl, rfl, by decide +kernel, rfl, by decide +kernel, by decide +kernel⟩
def e_Pages_1 : Fe := (orS (tV (isS false (vS 6))) (callP m_is_number (consL (vS 6) (consL (bin2 addG (cS (.int 1000000000)) (cS (.int 1))) nilL))))
def e_Pages_2 : Fe := (methS "Lines" "from_piece" m_Lines_from_piece (selfS "Pages" "lines") (consL (vS 7) nilL))
def b_Pages : Fs := (seqS (zsetS "Pages" "lines" (makS "Lines" m_Lines (consL (vS 1) (consL (vS 2) nilL))))
    (seqS (zsetS "Pages" "many" (fldS "Lines" "many" (selfS "Pages" "lines")))
    (seqS (iffS (orT (notT (truS (cbS isiG (consL (vS 3) (consL (tupS (consL (cS (.ty "tuple")) (consL (cS (.ty "list")) nilL))) nilL))))) (cmpT neG (cbS lenG (consL (vS 3) nilL)) (selfS "Pages" "many"))) noS doneS)
    (seqS (iffS (notT (truS (cbS allG (consL (lcS (seqI (vS 3)) (nmB 6) yesT e_Pages_1 [6]) nilL)))) noS doneS)
    (seqS (iffS (orT (notT (truS (callP m_is_whole (consL (vS 4) nilL)))) (orT (notT (truS (callP m_is_whole (consL (vS 5) nilL)))) (notT (chn3 leG leG leG (cS (.int 1)) (vS 4) (vS 5) (cS (.int 12)))))) noS doneS)
    (seqS (zsetS "Pages" "turns" (vS 3))
    (seqS (zsetS "Pages" "least" (vS 4))
    (seqS (zsetS "Pages" "most" (vS 5))
    (seqS (zsetS "Pages" "_from" (lcS (rngI1 (consL (selfS "Pages" "many") nilL)) (nmB 7) yesT e_Pages_2 [7]))
    doneS)))))))))
def m_Pages : List Z.D → Option (List Str × List Z.D) := runI N_Pages b_Pages "Pages"
abbrev st_best_pages : Stmt := topS 26
abbrev N_best_pages : List Str := ["pieces", "room", "turns", "least", "most", "best", "place", "cost", "found", "page", "behind"]
theorem sc_best_pages : FnScope N_best_pages ["pieces", "room", "turns", "least", "most"] (defScope st_best_pages) := ⟨rfl, rfl, rfl, by decide +kernel, rfl, by decide +kernel, by decide +kernel⟩
def l_best_pages_1 : Fs := (seqS (asgS 10 (bin2 ixG (bin2 dgG (vS 5) (vS 6)) (cS (.int 1))))
    (seqS (iffS (cmpT eqG (bin2 ixG (vS 10) (cS (.int 1))) (cS (.int 0))) (seqS (appS 8 (cbS tupleG (consL (vS 9) nilL)))
    (asgS 9 (lstS nilL))) (appS 9 (bin2 ixG (vS 10) (cS (.int 0)))))
    (asgS 6 (vS 10))))
def b_best_pages : Fs := (seqS (asgS 5 (callP m_best_behind (consL (makS "Pages" m_Pages (consL (vS 0) (consL (vS 1) (consL (vS 2) (consL (vS 3) (consL (vS 4) nilL)))))) nilL)))
    (seqS (asgS 6 (tupS (consL (cS (.int 0)) (consL (cS (.int 0)) nilL))))
    (seqS (iffS (cmpT (diG true) (vS 6) (vS 5)) (retS (cS .non)) doneS)
    (seqS (asgS 7 (bin2 ixG (bin2 ixG (bin2 dgG (vS 5) (vS 6)) (cS (.int 0))) (cS (.int 0))))
    (seqS (asgS 8 (lstS nilL))
    (seqS (asgS 9 (lstS nilL))
    (seqS (whlS (isS true (bin2 ixG (bin2 dgG (vS 5) (vS 6)) (cS (.int 1)))) l_best_pages_1 1000)
    (retS (tupS (consL (vS 7) (consL (cbS tupleG (consL (bin2 addG (vS 8) (lstS (consL (cbS tupleG (consL (vS 9) nilL)) nilL))) nilL)) nilL)))))))))))
def m_best_pages : List Z.D → Option Rt := runP N_best_pages b_best_pages
abbrev st__law_divisor : Stmt := topS 42
abbrev N__law_divisor : List Str := ["one", "other"]
theorem sc__law_divisor : FnScope N__law_divisor ["one", "other"] (defScope st__law_divisor) := ⟨rfl, rfl, rfl, by decide +kernel, rfl, by decide +kernel, by decide +kernel⟩
def b__law_divisor : Fs := (retS (ifS (cmpT gtG (vS 0) (cS (.int 0))) (bin2 divG (vS 0) (bin2 ixG (callP m__law_lowest (consL (vS 0) (consL (vS 1) nilL))) (cS (.int 0)))) (vS 1)))
def m__law_divisor : List Z.D → Option Rt := runP N__law_divisor b__law_divisor
abbrev st__law_scaled : Stmt := topS 46
abbrev N__law_scaled : List Str := ["pieces", "room", "common", "piece", "part", "sums", "new"]
theorem sc__law_scaled : FnScope N__law_scaled ["pieces", "room"] (defScope st__law_scaled) := ⟨rfl, rfl, rfl, by decide +kernel, rfl, by decide +kernel, by decide +kernel⟩
def l__law_scaled_1 : Fs := (asgS 2 (bin2 mulG (vS 2) (bin2 divG (bin2 ixG (vS 4) (cS (.int 1))) (callP m__law_divisor (consL (bin2 ixG (vS 4) (cS (.int 1))) (consL (vS 2) nilL))))))
def l__law_scaled_2 : Fs := (loopS (seqI (vS 3)) (nmB 4) l__law_scaled_1)
def e__law_scaled_1 : Fe := (bin2 mulG (bin2 ixG (vS 4) (cS (.int 0))) (bin2 divG (vS 2) (bin2 ixG (vS 4) (cS (.int 1)))))
def l__law_scaled_3 : Fs := (seqS (asgS 6 (lcS (seqI (vS 3)) (nmB 4) yesT e__law_scaled_1 [4]))
    (appS 5 (tupS (consL (bin2 addG (bin2 ixG (bin2 ixG (vS 5) (un1 negG (cS (.int 1)))) (cS (.int 0))) (bin2 ixG (vS 6) (cS (.int 0)))) (consL (bin2 addG (bin2 ixG (bin2 ixG (vS 5) (un1 negG (cS (.int 1)))) (cS (.int 1))) (bin2 ixG (vS 6) (cS (.int 1)))) (consL (bin2 addG (bin2 ixG (bin2 ixG (vS 5) (un1 negG (cS (.int 1)))) (cS (.int 2))) (bin2 ixG (vS 6) (cS (.int 2)))) nilL))))))
def b__law_scaled : Fs := (seqS (asgS 2 (bin2 ixG (vS 1) (cS (.int 1))))
    (seqS (loopS (seqI (vS 0)) (nmB 3) l__law_scaled_2)
    (seqS (asgS 5 (lstS (consL (tupS (consL (cS (.int 0)) (consL (cS (.int 0)) (consL (cS (.int 0)) nilL)))) nilL)))
    (seqS (loopS (seqI (vS 0)) (nmB 3) l__law_scaled_3)
    (retS (tupS (consL (vS 5) (consL (bin2 mulG (bin2 ixG (vS 1) (cS (.int 0))) (bin2 divG (vS 2) (bin2 ixG (vS 1) (cS (.int 1))))) nilL))))))))
def m__law_scaled : List Z.D → Option Rt := runP N__law_scaled b__law_scaled
abbrev st__law_is_integer : Stmt := topS 35
abbrev N__law_is_integer : List Str := ["actual"]
theorem sc__law_is_integer : FnScope N__law_is_integer ["actual"] (defScope st__law_is_integer) := ⟨rfl, rfl, rfl, by decide +kernel, rfl, by decide +kernel, by decide +kernel⟩
def b__law_is_integer : Fs := (retS (andS (cbS isiG (consL (vS 0) (consL (cS (.ty "int")) nilL))) (notS (cbS isiG (consL (vS 0) (consL (cS (.ty "bool")) nilL))))))
def m__law_is_integer : List Z.D → Option Rt := runP N__law_is_integer b__law_is_integer
abbrev st__law_same : Stmt := topS 36
abbrev N__law_same : List Str := ["actual", "due", "k"]
theorem sc__law_same : FnScope N__law_same ["actual", "due"] (defScope st__law_same) := ⟨rfl, rfl, rfl, by decide +kernel, rfl, by decide +kernel, by decide +kernel⟩
def e__law_same_1 (mr : List Z.D → Option Rt) : Fe := (callP mr (consL (bin2 ixG (vS 0) (vS 2)) (consL (bin2 ixG (vS 1) (vS 2)) nilL)))
def b__law_same (mr : List Z.D → Option Rt) : Fs := (seqS (iffS (truS (cbS isiG (consL (vS 1) (consL (cS (.ty "tuple")) nilL)))) (seqS (iffS (orT (notT (truS (cbS isiG (consL (vS 0) (consL (cS (.ty "tuple")) nilL))))) (cmpT neG (cbS lenG (consL (vS 0) nilL)) (cbS lenG (consL (vS 1) nilL)))) (retS (cS (.bl false))) doneS)
    (retS (cbS allG (consL (lcS (rngI1 (consL (cbS lenG (consL (vS 1) nilL)) nilL)) (nmB 2) yesT (e__law_same_1 mr) [2]) nilL)))) doneS)
    (seqS (iffS (truS (cbS isiG (consL (vS 1) (consL (cS (.ty "list")) nilL)))) (seqS (iffS (orT (notT (truS (cbS isiG (consL (vS 0) (consL (cS (.ty "list")) nilL))))) (cmpT neG (cbS lenG (consL (vS 0) nilL)) (cbS lenG (consL (vS 1) nilL)))) (retS (cS (.bl false))) doneS)
    (retS (cbS allG (consL (lcS (rngI1 (consL (cbS lenG (consL (vS 1) nilL)) nilL)) (nmB 2) yesT (e__law_same_1 mr) [2]) nilL)))) doneS)
    (seqS (iffS (isS false (vS 1)) (retS (tV (isS false (vS 0)))) doneS)
    (seqS (iffS (truS (cbS isiG (consL (vS 1) (consL (cS (.ty "bool")) nilL)))) (retS (andS (cbS isiG (consL (vS 0) (consL (cS (.ty "bool")) nilL))) (bin2 (bRes eqG) (vS 0) (vS 1)))) doneS)
    (seqS (iffS (truS (cbS isiG (consL (vS 1) (consL (cS (.ty "str")) nilL)))) (retS (andS (cbS isiG (consL (vS 0) (consL (cS (.ty "str")) nilL))) (bin2 (bRes eqG) (vS 0) (vS 1)))) doneS)
    (retS (andS (callP m__law_is_integer (consL (vS 0) nilL)) (bin2 (bRes eqG) (vS 0) (vS 1)))))))))
def m__law_same : Nat → List Z.D → Option Rt
  | 0 => fun _ => none
  | n + 1 => runP N__law_same (b__law_same (m__law_same n))
abbrev st_page_potentials : Stmt := topS 27
abbrev N_page_potentials : List Str := ["pieces", "room", "turns", "least", "most", "pages", "found", "place", "behind", "cost", "spent"]
theorem sc_page_potentials : FnScope N_page_potentials ["pieces", "room", "turns", "least", "most"] (defScope st_page_potentials) := ⟨rfl, rfl, rfl, by decide +kernel, rfl, by decide +kernel, by decide +kernel⟩
def l_page_potentials_1 : Fs := (seqS (asgS 10 (bin2 addG (bin2 dgG (vS 6) (vS 7)) (vS 9)))
    (putDS 6 (vS 8) (cbS minG (consL (vS 10) (consL (get2S (vS 6) (vS 8) (vS 10)) nilL)))))
def l_page_potentials_2 : Fs := (iffS (cmpT (diG false) (vS 7) (vS 6)) (loopS (seqI (methS "Pages" "following" m_Pages_following (vS 5) (consL (vS 7) nilL))) (tupB 2 (consB (nmB 8) (consB (nmB 9) nilB))) l_page_potentials_1) doneS)
def b_page_potentials : Fs := (seqS (asgS 5 (makS "Pages" m_Pages (consL (vS 0) (consL (vS 1) (consL (vS 2) (consL (vS 3) (consL (vS 4) nilL)))))))
    (seqS (asgS 6 (dispS (tupS (consL (cS (.int 0)) (consL (cS (.int 0)) nilL))) (cS (.int 0))))
    (seqS (loopS (seqI (methS "Pages" "places" m_Pages_places (vS 5) nilL)) (nmB 7) l_page_potentials_2)
    (retS (cbS tupleG (consL (sortItS (vS 6)) nilL))))))
def m_page_potentials : List Z.D → Option Rt := runP N_page_potentials b_page_potentials
abbrev st__law_listed : Stmt := topS 40
abbrev N__law_listed : List Str := ["thing", "part"]
theorem sc__law_listed : FnScope N__law_listed ["thing"] (defScope st__law_listed) := ⟨rfl, rfl, rfl, by decide +kernel, rfl, by decide +kernel, by decide +kernel⟩
def e__law_listed_1 (mr : List Z.D → Option Rt) : Fe := (callP mr (consL (vS 1) nilL))
def b__law_listed (mr : List Z.D → Option Rt) : Fs := (seqS (iffS (truS (cbS isiG (consL (vS 0) (consL (cS (.ty "tuple")) nilL)))) (retS (lcS (seqI (vS 0)) (nmB 1) yesT (e__law_listed_1 mr) [1])) doneS)
    (retS (vS 0)))
def m__law_listed : Nat → List Z.D → Option Rt
  | 0 => fun _ => none
  | n + 1 => runP N__law_listed (b__law_listed (m__law_listed n))
abbrev st__law_given : Stmt := topS 41
abbrev N__law_given : List Str := ["pool", "thing"]
theorem sc__law_given : FnScope N__law_given ["pool", "thing"] (defScope st__law_given) := ⟨rfl, rfl, rfl, by decide +kernel, rfl, by decide +kernel, by decide +kernel⟩
def b__law_given : Fs := (retS (ifS (cmpT eqG (callM (m__law_take 2) 0 (consL (vS 0) (consL (cS (.int 3)) nilL))) (cS (.int 0))) (callP (m__law_listed 5) (consL (vS 1) nilL)) (vS 1)))
def m__law_given : OC → List Z.D → Option (Rt × OC) := runM N__law_given b__law_given
abbrev st__law_other : Stmt := topS 54
abbrev N__law_other : List Str := ["pool", "lines", "pages", "rows", "part", "found", "place", "spent", "new", "known", "turn", "one"]
theorem sc__law_other : FnScope N__law_other ["pool", "lines", "pages", "rows"] (defScope st__law_other) := ⟨rfl, rfl, rfl, by decide +kernel, rfl, by decide +kernel, by decide +kernel⟩
def e__law_other_1 : Fe := (tupS (consL (vS 6) (consL (bin2 divG (bin2 mulG (vS 7) (vS 4)) (cS (.int 9))) nilL)))
def l__law_other_1 : Fs := (putDS 9 (vS 6) (cS (.bl true)))
def e__law_other_2 : Fe := (bin2 ixG (vS 11) (cS (.int 0)))
def l__law_other_2 : Fs := (seqS (iffS (notT (truS (vS 8))) brkS doneS)
    (seqS (asgS 6 (pop0S 8))
    (iffS (cmpT (diG true) (vS 6) (vS 9)) (seqS (putDS 9 (vS 6) (cS (.bl true)))
    (seqS (appS 5 (tupS (consL (vS 6) (consL (bin2 powG (cS (.int 10)) (cS (.int 40))) nilL))))
    (asgS 8 (bin2 addG (vS 8) (lcS (seqI (callP m__law_steps (consL (vS 1) (consL (vS 2) (consL (vS 6) nilL))))) (nmB 11) yesT e__law_other_2 [11]))))) doneS)))
def b__law_other : Fs := (seqS (asgS 4 (bin2 addG (cS (.int 1)) (callM (m__law_take 2) 0 (consL (vS 0) (consL (cS (.int 9)) nilL)))))
    (seqS (asgS 5 (lcS (seqI (vS 3)) (tupB 2 (consB (nmB 6) (consB (nmB 7) nilB))) yesT e__law_other_1 [6, 7]))
    (seqS (asgS 8 (lstS (consL (tupS (consL (callM (m__law_take 2) 0 (consL (vS 0) (consL (bin2 addG (cbS lenG (consL (vS 1) nilL)) (cS (.int 1))) nilL))) (consL (callM (m__law_take 2) 0 (consL (vS 0) (consL (bin2 addG (bin2 ixG (vS 2) (cS (.int 2))) (cS (.int 1))) nilL))) nilL))) nilL)))
    (seqS (asgS 9 newDS)
    (seqS (loopS (seqI (vS 3)) (tupB 2 (consB (nmB 6) (consB (nmB 7) nilB))) l__law_other_1)
    (seqS (loopS (rngI1 (consL (cS (.int 8000)) nilL)) (nmB 10) l__law_other_2)
    (retS (vS 5))))))))
def m__law_other : OC → List Z.D → Option (Rt × OC) := runM N__law_other b__law_other
abbrev st__law_spoilt : Stmt := topS 55
abbrev N__law_spoilt : List Str := ["pool", "rows", "at", "place", "spent", "new"]
theorem sc__law_spoilt : FnScope N__law_spoilt ["pool", "rows"] (defScope st__law_spoilt) := ⟨rfl, rfl, rfl, by decide +kernel, rfl, by decide +kernel, by decide +kernel⟩
def b__law_spoilt : Fs := (seqS (asgS 2 (callM (m__law_take 2) 0 (consL (vS 0) (consL (cbS lenG (consL (vS 1) nilL)) nilL))))
    (seqS (asgT (tupB 2 (consB (nmB 3) (consB (nmB 4) nilB))) (bin2 ixG (vS 1) (vS 2)))
    (seqS (asgS 5 (lstS (consL (tupS (consL (vS 3) (consL (bin2 addG (vS 4) (callM m__law_pick 0 (consL (vS 0) (consL (lstS (consL (cS (.int 1)) (consL (un1 negG (cS (.int 1))) (consL (cS (.int 1000)) (consL (un1 negG (vS 4)) (consL (bin2 subG (un1 negG (vS 4)) (cS (.int 1))) nilL)))))) nilL)))) nilL))) nilL)))
    (seqS (iffS (cmpT eqG (callM (m__law_take 2) 0 (consL (vS 0) (consL (cS (.int 3)) nilL))) (cS (.int 0))) (asgS 5 (lstS nilL)) doneS)
    (retS (bin2 addG (bin2 addG (slS (vS 1) noO (soO (vS 2))) (vS 5)) (slS (vS 1) (soO (bin2 addG (vS 2) (cS (.int 1)))) noO)))))))
def m__law_spoilt : OC → List Z.D → Option (Rt × OC) := runM N__law_spoilt b__law_spoilt
abbrev st__law_order : Stmt := topS 39
abbrev N__law_order : List Str := ["pool", "many", "left", "found", "k"]
theorem sc__law_order : FnScope N__law_order ["pool", "many"] (defScope st__law_order) := ⟨rfl, rfl, rfl, by decide +kernel, rfl, by decide +kernel, by decide +kernel⟩
def l__law_order_1 : Fs := (asgS 3 (bin2 addG (vS 3) (tupS (consL (popS 2 (callM (m__law_take 2) 0 (consL (vS 0) (consL (cbS lenG (consL (vS 2) nilL)) nilL)))) nilL))))
def b__law_order : Fs := (seqS (asgS 2 (lrgS (consL (vS 1) nilL)))
    (seqS (asgS 3 (tupS nilL))
    (seqS (loopS (rngI1 (consL (vS 1) nilL)) (nmB 4) l__law_order_1)
    (retS (vS 3)))))
def m__law_order : OC → List Z.D → Option (Rt × OC) := runM N__law_order b__law_order
abbrev st__law_mixed : Stmt := topS 57
abbrev N__law_mixed : List Str := ["pool", "rows", "k"]
theorem sc__law_mixed : FnScope N__law_mixed ["pool", "rows"] (defScope st__law_mixed) := ⟨rfl, rfl, rfl, by decide +kernel, rfl, by decide +kernel, by decide +kernel⟩
def e__law_mixed_1 : Fe := (bin2 ixG (vS 1) (vS 2))
def b__law_mixed : Fs := (retS (cbS tuplePG (consL (lcS (seqI (callM m__law_order 0 (consL (vS 0) (consL (cbS lenG (consL (vS 1) nilL)) nilL)))) (nmB 2) yesT e__law_mixed_1 [2]) nilL)))
def m__law_mixed : OC → List Z.D → Option (Rt × OC) := runM N__law_mixed b__law_mixed
abbrev st__law_shows : Stmt := topS 53
abbrev N__law_shows : List Str := ["lines", "pages", "rows", "total", "known", "place", "spent", "behind", "cost", "ends"]
theorem sc__law_shows : FnScope N__law_shows ["lines", "pages", "rows", "total"] (defScope st__law_shows) := ⟨rfl, rfl, rfl, by decide +kernel, rfl, by decide +kernel, by decide +kernel⟩
def l__law_shows_1 : Fs := (seqS (putDS 4 (vS 5) (vS 6))
    (iffS (cmpT lt3G (vS 6) (cS (.int 0))) (retS (cS (.bl false))) doneS))
def l__law_shows_2 : Fs := (iffS (orT (cmpT (diG true) (vS 7) (vS 4)) (cmpT gtG (bin2 dgG (vS 4) (vS 7)) (bin2 addG (vS 6) (vS 8)))) (retS (cS (.bl false))) doneS)
def l__law_shows_3 : Fs := (loopS (seqI (callP m__law_steps (consL (vS 0) (consL (vS 1) (consL (vS 5) nilL))))) (tupB 2 (consB (nmB 7) (consB (nmB 8) nilB))) l__law_shows_2)
def e__law_shows_1 : Fe := (vS 6)
def t__law_shows_1 : Ft := (cmpT eqG (bin2 ixG (vS 5) (cS (.int 0))) (cbS lenG (consL (vS 0) nilL)))
def e__law_shows_2 : Fe := (bin2 (bRes geG) (vS 6) (vS 3))
def b__law_shows : Fs := (seqS (asgS 4 newDS)
    (seqS (loopS (seqI (vS 2)) (tupB 2 (consB (nmB 5) (consB (nmB 6) nilB))) l__law_shows_1)
    (seqS (iffS (orT (cmpT (diG true) (tupS (consL (cS (.int 0)) (consL (cS (.int 0)) nilL))) (vS 4)) (cmpT neG (bin2 dgG (vS 4) (tupS (consL (cS (.int 0)) (consL (cS (.int 0)) nilL)))) (cS (.int 0)))) (retS (cS (.bl false))) doneS)
    (seqS (loopS (seqI (vS 2)) (tupB 2 (consB (nmB 5) (consB (nmB 6) nilB))) l__law_shows_3)
    (seqS (asgS 9 (lcS (seqI (vS 2)) (tupB 2 (consB (nmB 5) (consB (nmB 6) nilB))) t__law_shows_1 e__law_shows_1 [5, 6]))
    (seqS (iffS (isS false (vS 3)) (retS (bin2 (bRes eqG) (vS 9) (lstS nilL))) doneS)
    (retS (cbS allG (consL (lcS (seqI (vS 9)) (nmB 6) yesT e__law_shows_2 [6]) nilL)))))))))
def m__law_shows : List Z.D → Option Rt := runP N__law_shows b__law_shows
abbrev st__law_misshapen : Stmt := topS 56
abbrev N__law_misshapen : List Str := ["pool", "rows", "many", "most", "at", "place", "spent", "bad", "wrong"]
theorem sc__law_misshapen : FnScope N__law_misshapen ["pool", "rows", "many", "most"] (defScope st__law_misshapen) := ⟨rfl, rfl, rfl, by decide +kernel, rfl, by decide +kernel, by decide +kernel⟩
def b__law_misshapen : Fs := (seqS (asgS 4 (callM (m__law_take 2) 0 (consL (vS 0) (consL (cbS lenG (consL (vS 1) nilL)) nilL))))
    (seqS (asgT (tupB 2 (consB (nmB 5) (consB (nmB 6) nilB))) (bin2 ixG (vS 1) (vS 4)))
    (seqS (asgS 7 (lstS (consL (lstS (consL (vS 5) (consL (vS 6) nilL))) (consL (tupS (consL (vS 5) nilL)) (consL (tupS (consL (vS 5) (consL (cS .non) nilL))) (consL (tupS (consL (vS 5) (consL (cS (.bl true)) nilL))) (consL (tupS (consL (cbS listG (consL (vS 5) nilL)) (consL (vS 6) nilL))) (consL (tupS (consL (bin2 ixG (vS 5) (cS (.int 0))) (consL (vS 6) nilL))) (consL (cS .non) (consL (tupS (consL (vS 5) (consL (vS 6) (consL (cS (.int 0)) nilL)))) nilL))))))))))
    (seqS (asgS 7 (bin2 addG (vS 7) (lstS (consL (tupS (consL (tupS (consL (bin2 addG (vS 2) (cS (.int 1))) (consL (cS (.int 0)) nilL))) (consL (vS 6) nilL))) (consL (tupS (consL (tupS (consL (bin2 ixG (vS 5) (cS (.int 0))) (consL (bin2 addG (vS 3) (cS (.int 1))) nilL))) (consL (vS 6) nilL))) (consL (tupS (consL (tupS (consL (un1 negG (cS (.int 1))) (consL (cS (.int 0)) nilL))) (consL (vS 6) nilL))) (consL (tupS (consL (tupS (consL (bin2 ixG (vS 5) (cS (.int 0))) (consL (cS .non) nilL))) (consL (vS 6) nilL))) nilL)))))))
    (seqS (iffS (cmpT lt3G (bin2 ixG (vS 5) (cS (.int 1))) (cS (.int 2))) (asgS 7 (bin2 addG (vS 7) (bin2 mulG (lstS (consL (tupS (consL (tupS (consL (bin2 ixG (vS 5) (cS (.int 0))) (consL (bin2 (bRes eqG) (bin2 ixG (vS 5) (cS (.int 1))) (cS (.int 1))) nilL))) (consL (vS 6) nilL))) nilL)) (cS (.int 4))))) doneS)
    (seqS (asgS 8 (bin2 addG (bin2 addG (cbS tupleG (consL (slS (vS 1) noO (soO (vS 4))) nilL)) (tupS (consL (callM m__law_pick 0 (consL (vS 0) (consL (vS 7) nilL))) nilL))) (cbS tupleG (consL (slS (vS 1) (soO (bin2 addG (vS 4) (cS (.int 1)))) noO) nilL))))
    (retS (callM m__law_pick 0 (consL (vS 0) (consL (lstS (consL (vS 8) (consL (vS 8) (consL (vS 8) (consL (bin2 addG (cbS tupleG (consL (vS 1) nilL)) (tupS (consL (bin2 ixG (vS 1) (vS 4)) nilL))) (consL (cbS listG (consL (vS 1) nilL)) (consL (cS .non) (consL (cS (.str "told")) (consL (cS (.int 0)) (consL ptE nilL)))))))))) nilL))))))))))
def m__law_misshapen : OC → List Z.D → Option (Rt × OC) := runM N__law_misshapen b__law_misshapen
abbrev st_are_priced : Stmt := topS 28
abbrev N_are_priced : List Str := ["pages", "told", "pair", "place"]
theorem sc_are_priced : FnScope N_are_priced ["pages", "told"] (defScope st_are_priced) := ⟨rfl, rfl, rfl, by decide +kernel, rfl, by decide +kernel, by decide +kernel⟩
def l_are_priced_1 : Fs := (seqS (iffS (orT (notT (truS (cbS isiG (consL (vS 2) (consL (cS (.ty "tuple")) nilL))))) (orT (cmpT neG (cbS lenG (consL (vS 2) nilL)) (cS (.int 2))) (orT (notT (truS (callP m_is_whole (consL (bin2 ixG (vS 2) (cS (.int 1))) nilL)))) (cmpT lt3G (bin2 ixG (vS 2) (cS (.int 1))) (cS (.int 0)))))) (retS (cS (.bl false))) doneS)
    (seqS (asgS 3 (bin2 ixG (vS 2) (cS (.int 0))))
    (seqS (iffS (orT (notT (truS (cbS isiG (consL (vS 3) (consL (cS (.ty "tuple")) nilL))))) (cmpT neG (cbS lenG (consL (vS 3) nilL)) (cS (.int 2)))) (retS (cS (.bl false))) doneS)
    (iffS (orT (notT (truS (callP m_is_number (consL (bin2 ixG (vS 3) (cS (.int 0))) (consL (bin2 addG (fldS "Pages" "many" (vS 0)) (cS (.int 1))) nilL))))) (notT (truS (callP m_is_number (consL (bin2 ixG (vS 3) (cS (.int 1))) (consL (bin2 addG (fldS "Pages" "most" (vS 0)) (cS (.int 1))) nilL)))))) (retS (cS (.bl false))) doneS))))
def e_are_priced_1 : Fe := (bin2 ixG (vS 2) (cS (.int 0)))
def b_are_priced : Fs := (seqS (iffS (notT (truS (cbS isiG (consL (vS 1) (consL (cS (.ty "tuple")) nilL))))) (retS (cS (.bl false))) doneS)
    (seqS (loopS (seqI (vS 1)) (nmB 2) l_are_priced_1)
    (retS (bin2 (bRes eqG) (lenSetS (seqI (vS 1)) (nmB 2) e_are_priced_1 [2]) (cbS lenG (consL (vS 1) nilL))))))
def m_are_priced : List Z.D → Option Rt := runP N_are_priced b_are_priced
abbrev st_shows_pages : Stmt := topS 29
abbrev N_shows_pages : List Str := ["pieces", "room", "turns", "least", "most", "told", "total", "pages", "known", "place", "spent", "behind", "cost", "ends"]
theorem sc_shows_pages : FnScope N_shows_pages ["pieces", "room", "turns", "least", "most", "told", "total"] (defScope st_shows_pages) := ⟨rfl, rfl, rfl, by decide +kernel, rfl, by decide +kernel, by decide +kernel⟩
def l_shows_pages_1 : Fs := (iffS (orT (cmpT (diG true) (vS 11) (vS 8)) (cmpT gtG (bin2 dgG (vS 8) (vS 11)) (bin2 addG (vS 10) (vS 12)))) (retS (cS (.bl false))) doneS)
def l_shows_pages_2 : Fs := (loopS (seqI (methS "Pages" "following" m_Pages_following (vS 7) (consL (vS 9) nilL))) (tupB 2 (consB (nmB 11) (consB (nmB 12) nilB))) l_shows_pages_1)
def e_shows_pages_1 : Fe := (vS 10)
def t_shows_pages_1 : Ft := (cmpT eqG (bin2 ixG (vS 9) (cS (.int 0))) (fldS "Pages" "many" (vS 7)))
def e_shows_pages_2 : Fe := (bin2 (bRes geG) (vS 10) (vS 6))
def b_shows_pages : Fs := (seqS (asgS 7 (makS "Pages" m_Pages (consL (vS 0) (consL (vS 1) (consL (vS 2) (consL (vS 3) (consL (vS 4) nilL)))))))
    (seqS (iffS (notT (truS (callP m_are_priced (consL (vS 7) (consL (vS 5) nilL))))) (retS (cS (.bl false))) doneS)
    (seqS (asgS 8 (cbS dictTG (consL (vS 5) nilL)))
    (seqS (iffS (cmpT neG (get1S (vS 8) (tupS (consL (cS (.int 0)) (consL (cS (.int 0)) nilL)))) (cS (.int 0))) (retS (cS (.bl false))) doneS)
    (seqS (loopS (seqI (vS 5)) (tupB 2 (consB (nmB 9) (consB (nmB 10) nilB))) l_shows_pages_2)
    (seqS (asgS 13 (lcS (seqI (vS 5)) (tupB 2 (consB (nmB 9) (consB (nmB 10) nilB))) t_shows_pages_1 e_shows_pages_1 [9, 10]))
    (seqS (iffS (isS false (vS 6)) (retS (notS (vS 13))) doneS)
    (retS (andS (callP m_is_whole (consL (vS 6) nilL)) (cbS allG (consL (lcS (seqI (vS 13)) (nmB 10) yesT e_shows_pages_2 [10]) nilL)))))))))))
def m_shows_pages : List Z.D → Option Rt := runP N_shows_pages b_shows_pages
abbrev st_law : Stmt := topS 58
abbrev N_law : List Str := ["script", "pool", "turn", "many", "wide", "pieces", "room", "lines", "least", "most", "turns", "pages", "found", "rows", "place", "ends", "spent", "best", "total", "asked", "again", "told", "number", "due"]
theorem sc_law : FnScope N_law ["script"] (defScope st_law) := ⟨rfl, rfl, rfl, by decide +kernel, rfl, by decide +kernel, by decide +kernel⟩
def e_law_1 : Fe := (vS 16)
def t_law_1 : Ft := (cmpT eqG (bin2 ixG (vS 14) (cS (.int 0))) (vS 3))
def l_law_1 : Fs := (seqS (asgS 21 (callM m__law_pick 1 (consL (vS 1) (consL (lstS (consL (vS 13) (consL (callM m__law_other 1 (consL (vS 1) (consL (vS 7) (consL (vS 11) (consL (vS 13) nilL))))) (consL (callM m__law_spoilt 1 (consL (vS 1) (consL (vS 13) nilL))) nilL)))) nilL))))
    (seqS (asgS 22 (callM m__law_pick 1 (consL (vS 1) (consL (lstS (consL (vS 18) (consL (vS 18) (consL (bin2 addG (vS 18) (cS (.int 1))) (consL (bin2 subG (vS 18) (cS (.int 1))) (consL (cS .non) (consL (cS (.int 0)) nilL))))))) nilL))))
    (seqS (appS 19 (tupS (consL (callM m__law_mixed 1 (consL (vS 1) (consL (vS 21) nilL))) (consL (vS 22) (consL (callP m__law_shows (consL (vS 7) (consL (vS 11) (consL (vS 21) (consL (vS 22) nilL))))) nilL)))))
    (appS 19 (tupS (consL (callM m__law_misshapen 1 (consL (vS 1) (consL (vS 13) (consL (vS 3) (consL (vS 9) nilL))))) (consL (callM m__law_pick 1 (consL (vS 1) (consL (lstS (consL (vS 18) (consL (cS .non) nilL))) nilL))) (consL (cS (.bl false)) nilL))))))))
def l_law_2 : Fs := (iffS (notT (truS (callP (m__law_same 6) (consL (callP m_shows_pages (consL (vS 5) (consL (vS 6) (consL (vS 10) (consL (vS 8) (consL (vS 9) (consL (vS 21) (consL (vS 22) nilL)))))))) (consL (vS 23) nilL))))) (retS (cS (.bl false))) doneS)
def l_law_3 : Fs := (seqS (asgT (tupB 2 (consB (nmB 3) (consB (nmB 4) nilB))) (callM m__law_amounts 1 (consL (vS 1) nilL)))
    (seqS (iffS (cmpT gtG (vS 2) (cS (.int 0))) (asgS 3 (cbS minG (consL (vS 3) (consL (cS (.int 12)) nilL)))) doneS)
    (seqS (asgS 5 (callM m__law_pieces 1 (consL (vS 1) (consL (vS 3) nilL))))
    (seqS (asgS 6 (callM m__law_room 1 (consL (vS 1) (consL (vS 5) (consL (vS 4) nilL)))))
    (seqS (asgS 7 (callP m__law_fitting (consL (callP m__law_scaled (consL (vS 5) (consL (vS 6) nilL))) nilL)))
    (seqS (asgS 8 (bin2 addG (cS (.int 1)) (callM (m__law_take 2) 1 (consL (vS 1) (consL (cS (.int 3)) nilL)))))
    (seqS (asgS 9 (ifS (cmpT lt3G (vS 3) (cS (.int 100))) (callM m__law_pick 1 (consL (vS 1) (consL (lstS (consL (vS 8) (consL (bin2 addG (vS 8) (cS (.int 1))) (consL (cS (.int 12)) nilL)))) nilL))) (bin2 addG (vS 8) (callM (m__law_take 2) 1 (consL (vS 1) (consL (cS (.int 2)) nilL))))))
    (seqS (asgS 10 (callM m__law_turn_costs 1 (consL (vS 1) (consL (vS 3) nilL))))
    (seqS (asgS 11 (tupS (consL (vS 10) (consL (vS 8) (consL (vS 9) nilL)))))
    (seqS (asgS 12 (callP m__law_least (consL (vS 7) (consL (vS 11) nilL))))
    (seqS (asgS 13 (cbS sortRG (consL (itemsCS 12 14) nilL)))
    (seqS (iffS (notT (truS (callP (m__law_same 6) (consL (callP m_page_potentials (consL (callM m__law_given 1 (consL (vS 1) (consL (vS 5) nilL))) (consL (vS 6) (consL (vS 10) (consL (vS 8) (consL (vS 9) nilL)))))) (consL (cbS tupleG (consL (vS 13) nilL)) nilL))))) (retS (cS (.bl false))) doneS)
    (seqS (asgS 15 (lcS (seqI (vS 13)) (tupB 2 (consB (nmB 14) (consB (nmB 16) nilB))) t_law_1 e_law_1 [14, 16]))
    (seqS (asgS 17 (callP m_best_pages (consL (vS 5) (consL (vS 6) (consL (vS 10) (consL (vS 8) (consL (vS 9) nilL)))))))
    (seqS (iffS (orT (cmpT neG (tV (isS false (vS 17))) (bin2 (bRes eqG) (vS 15) (lstS nilL))) (andT (truS (vS 15)) (notT (truS (callP (m__law_same 6) (consL (bin2 ixG (vS 17) (cS (.int 0))) (consL (cbS minG (consL (vS 15) nilL)) nilL))))))) (retS (cS (.bl false))) doneS)
    (seqS (asgS 18 (ifS (truS (vS 15)) (cbS minG (consL (vS 15) nilL)) (bin2 powG (cS (.int 10)) (cS (.int 30)))))
    (seqS (asgS 19 (lstS (consL (tupS (consL (cbS tuplePG (consL (vS 13) nilL)) (consL (callM m__law_pick 1 (consL (vS 1) (consL (lstS (consL (cS (.bl true)) (consL (cS (.str "0")) (consL (tupS (consL (cS (.int 0)) (consL (cS (.int 1)) nilL))) nilL)))) nilL))) (consL (cS (.bl false)) nilL)))) nilL)))
    (seqS (loopS (rngI1 (consL (ifS (cmpT lt3G (vS 3) (cS (.int 100))) (cS (.int 8)) (cS (.int 1))) nilL)) (nmB 20) l_law_1)
    (loopS (seqI (vS 19)) (tupB 3 (consB (nmB 21) (consB (nmB 22) (consB (nmB 23) nilB)))) l_law_2)))))))))))))))))))
def b_law : Fs := (seqS (asgS 1 (callP m__law_pool (consL (vS 0) nilL)))
    (seqS (loopS (rngI1 (consL (cS (.int 3)) nilL)) (nmB 2) l_law_3)
    (retS (cS (.bl true)))))
def m_law : List Z.D → Option Rt := runP N_law b_law
theorem bo_abs : bootBuiltins "abs" = some (.builtin "abs") := by decide +kernel
theorem bo_all : bootBuiltins "all" = some (.builtin "all") := by decide +kernel
theorem bo_any : bootBuiltins "any" = some (.builtin "any") := by decide +kernel
theorem bo_bool : bootBuiltins "bool" = some (.type "bool") := by decide +kernel
theorem bo_dict : bootBuiltins "dict" = some (.type "dict") := by decide +kernel
theorem bo_enumerate : bootBuiltins "enumerate" = some (.type "enumerate") := by decide +kernel
theorem bo_int : bootBuiltins "int" = some (.type "int") := by decide +kernel
theorem bo_isinstance : bootBuiltins "isinstance" = some (.builtin "isinstance") := by decide +kernel
theorem bo_len : bootBuiltins "len" = some (.builtin "len") := by decide +kernel
theorem bo_list : bootBuiltins "list" = some (.type "list") := by decide +kernel
theorem bo_min : bootBuiltins "min" = some (.builtin "min") := by decide +kernel
theorem bo_range : bootBuiltins "range" = some (.type "range") := by decide +kernel
theorem bo_sorted : bootBuiltins "sorted" = some (.builtin "sorted") := by decide +kernel
theorem bo_str : bootBuiltins "str" = some (.type "str") := by decide +kernel
theorem bo_tuple : bootBuiltins "tuple" = some (.type "tuple") := by decide +kernel
structure Txt (K : PySem.W.Frag) (mg : Str → Option Value) (cl : Str → Addr) : Prop where
  b_gcd : mg "gcd" = some (.builtin "math.gcd")
  b_lcm : mg "lcm" = some (.builtin "math.lcm")
  i_MOST_BOTTOM : ∃ t, mg "MOST_BOTTOM" = some (.int 1000 t)
  i_MOST_LINES : ∃ t, mg "MOST_LINES" = some (.int 12 t)
  i_MOST_PIECES : ∃ t, mg "MOST_PIECES" = some (.int 400 t)
  i_MOST_TOP : ∃ t, mg "MOST_TOP" = some (.int 1000000 t)
  i_MOST_TURN : ∃ t, mg "MOST_TURN" = some (.int 1000000000 t)
  i_SCALE : ∃ t, mg "SCALE" = some (.int 1000 t)
  n_abs : mg "abs" = none
  n_all : mg "all" = none
  n_any : mg "any" = none
  n_bool : mg "bool" = none
  n_dict : mg "dict" = none
  n_enumerate : mg "enumerate" = none
  n_int : mg "int" = none
  n_isinstance : mg "isinstance" = none
  n_len : mg "len" = none
  n_list : mg "list" = none
  n_min : mg "min" = none
  n_range : mg "range" = none
  n_sorted : mg "sorted" = none
  n_str : mg "str" = none
  n_tuple : mg "tuple" = none
  f__law_pool : FunG K mg "_law_pool" st__law_pool
  f__law_take : FunG K mg "_law_take" st__law_take
  f__law_pick : FunG K mg "_law_pick" st__law_pick
  f__law_amounts : FunG K mg "_law_amounts" st__law_amounts
  f__law_lowest : FunG K mg "_law_lowest" st__law_lowest
  f__law_piece : FunG K mg "_law_piece" st__law_piece
  f__law_pieces : FunG K mg "_law_pieces" st__law_pieces
  f__law_sum : FunG K mg "_law_sum" st__law_sum
  f__law_room : FunG K mg "_law_room" st__law_room
  f__law_bad : FunG K mg "_law_bad" st__law_bad
  f__law_fitting : FunG K mg "_law_fitting" st__law_fitting
  f__law_below : FunG K mg "_law_below" st__law_below
  f__law_turn_costs : FunG K mg "_law_turn_costs" st__law_turn_costs
  f__law_steps : FunG K mg "_law_steps" st__law_steps
  f__law_least : FunG K mg "_law_least" st__law_least
  mt_Pages_places : MthG K (cl "Pages") "places" "Pages.places" st_Pages_places
  mt_Pages_turn : MthG K (cl "Pages") "turn" "Pages.turn" st_Pages_turn
  mt_Pages_by_lines : MthG K (cl "Pages") "by_lines" "Pages.by_lines" st_Pages_by_lines
  mt_Pages_following : MthG K (cl "Pages") "following" "Pages.following" st_Pages_following
  f_best_behind : FunG K mg "best_behind" st_best_behind
  f_is_fraction : FunG K mg "is_fraction" st_is_fraction
  f_is_part : FunG K mg "is_part" st_is_part
  f_is_piece : FunG K mg "is_piece" st_is_piece
  f_check_pieces : FunG K mg "check_pieces" st_check_pieces
  mk_Lines : MakG K mg (cl "Lines") "Lines" "Lines.__init__" st_Lines
  mt_Lines_badness : MthG K (cl "Lines") "badness" "Lines.badness" st_Lines_badness
  mt_Lines_from_piece : MthG K (cl "Lines") "from_piece" "Lines.from_piece" st_Lines_from_piece
  f_is_whole : FunG K mg "is_whole" st_is_whole
  f_is_number : FunG K mg "is_number" st_is_number
  mk_Pages : MakG K mg (cl "Pages") "Pages" "Pages.__init__" st_Pages
  f_best_pages : FunG K mg "best_pages" st_best_pages
  f__law_divisor : FunG K mg "_law_divisor" st__law_divisor
  f__law_scaled : FunG K mg "_law_scaled" st__law_scaled
  f__law_is_integer : FunG K mg "_law_is_integer" st__law_is_integer
  f__law_same : FunG K mg "_law_same" st__law_same
  f_page_potentials : FunG K mg "page_potentials" st_page_potentials
  f__law_listed : FunG K mg "_law_listed" st__law_listed
  f__law_given : FunG K mg "_law_given" st__law_given
  f__law_other : FunG K mg "_law_other" st__law_other
  f__law_spoilt : FunG K mg "_law_spoilt" st__law_spoilt
  f__law_order : FunG K mg "_law_order" st__law_order
  f__law_mixed : FunG K mg "_law_mixed" st__law_mixed
  f__law_shows : FunG K mg "_law_shows" st__law_shows
  f__law_misshapen : FunG K mg "_law_misshapen" st__law_misshapen
  f_are_priced : FunG K mg "are_priced" st_are_priced
  f_shows_pages : FunG K mg "shows_pages" st_shows_pages
  f_law : FunG K mg "law" st_law
  cls_Lines : Cls K (cl "Lines")
  na_Lines_many : NoAttr K (cl "Lines") "many"
  na_Lines_room : NoAttr K (cl "Lines") "room"
  na_Lines__sums : NoAttr K (cl "Lines") "_sums"
  cls_Pages : Cls K (cl "Pages")
  na_Pages_lines : NoAttr K (cl "Pages") "lines"
  na_Pages_many : NoAttr K (cl "Pages") "many"
  na_Pages_turns : NoAttr K (cl "Pages") "turns"
  na_Pages_least : NoAttr K (cl "Pages") "least"
  na_Pages_most : NoAttr K (cl "Pages") "most"
  na_Pages__from : NoAttr K (cl "Pages") "_from"
section
variable {P : Program} {w : World} {K : PySem.W.Frag} {cl : Str → Addr} {mg : Str → Option Value} {base : Heap}
theorem c__law_pool (T : Txt K mg cl) : Cal P w K mg base "_law_pool" 1 ["script"] (spP K cl 1 m__law_pool) := by
  refine cal_P 0 (N := N__law_pool) T.f__law_pool sc__law_pool (by decide) (fun _ _ _ _ _ _ us hl => match us, hl with | [_], _ => rfl) (fun f cdv A outer s H E hr => ?_)
  have hu := hu_room hr
  exact (qss_one (qs_ret (pr_lst (pl_cons (pr_lc (own := [("cell", 1)]) rfl sc__law_pool.nd (pi_seqZ (pr_var 0)) (blkOk_by (by first | (show blkC N__law_pool (defScope st__law_pool) _ _ = true; decide +kernel) | with_unfolding_all rfl)) (fun _ _ _ _ _ => (pg_nm 1 sc__law_pool.nd)) (fun _ _ _ _ _ => pts_nilZ) (fun _ _ _ _ _ => (pr_if (pq_cmp op_ge ge_ok (pr_var 1) pr_int (nomark _)) (pr_op op_mulZ mul_ok pr_int (pr_var 1)) (pr_op op_sub sub_ok (pr_op op_mulZ mul_ok (pr_neg pr_int) (pr_var 1)) pr_int)))) (pl_cons pr_int (pl_cons pr_int (pl_cons pr_int pl_nil)))) (consL_len (consL_len (consL_len (consL_len nilL_len)))))))
theorem cr__law_take (T : Txt K mg cl) {mr : OC → List Z.D → Option (Rt × OC)} (k : Nat) (hk : 0 ≤ k) (Cr : Cal P w K mg base "_law_take" k ["pool", "many"] (spM K cl 2 mr)) : Cal P w K mg base "_law_take" (k + 1) ["pool", "many"] (spM K cl 2 (runM N__law_take (b__law_take mr))) := by
  refine cal_M k (N := N__law_take) T.f__law_take sc__law_take (by decide) (fun _ _ _ _ _ _ us hl => match us, hl with | [_, _], _ => rfl) (fun f cdv A outer s H E hr => ?_)
  have hu := hu_room hr
  exact (qss_cons (qs_if (pq_cmp op_gt gt_ok (pr_ix ix_seqZ ix_ok (pr_var 0) pr_int (fun _ _ => rfl)) pr_int (nomark _)) (qss_cons (qs_set 2 sc__law_take.nd (pr_op op_mod mod_ok (pr_tyc call_int1 int_ok T.n_int bo_int (pl_cons (pr_ix ix_seqZ ix_ok (pr_var 0) pr_int (fun _ _ => rfl)) pl_nil)) (pr_var 1)))
    (qss_cons (qs_put (ps_asg (pr_op op_divB div_ok (pr_ix ix_seqZ ix_ok (pr_var 0) pr_int (fun _ _ => rfl)) (pr_var 1)) (pg_sub (pv 0) pr_int set_list)))
    (qss_one (qs_ret (pr_var 2))))) qss_nil)
    (qss_cons (qs_set 3 sc__law_take.nd pr_int)
    (qss_cons (qs_if (pq_cmp (op_lt3 hu) lt3_ok (pr_ix ix_seqZ ix_ok (pr_var 0) pr_int (fun _ _ => rfl)) (pr_blt call_len_seq len_ok T.n_len bo_len (pl_cons (pr_ix ix_seqZ ix_ok (pr_var 0) pr_int (fun _ _ => rfl)) pl_nil)) (nomark _)) (qss_one (qs_set 3 sc__law_take.nd (pr_ix ix_seqZ ix_ok (pr_ix ix_seqZ ix_ok (pr_var 0) pr_int (fun _ _ => rfl)) (pr_ix ix_seqZ ix_ok (pr_var 0) pr_int (fun _ _ => rfl)) (fun _ _ => rfl)))) qss_nil)
    (qss_cons (qs_put (ps_asg (pr_op op_addZ add_ok (pr_ix ix_seqZ ix_ok (pr_var 0) pr_int (fun _ _ => rfl)) pr_int) (pg_sub (pv 0) pr_int set_list)))
    (qss_cons (qs_if (pq_cmp op_ge ge_ok (pr_var 3) (pr_op op_pow pow_ok pr_int pr_int) (nomark _)) (qss_cons (qs_put (ps_asg (pr_op op_divB div_ok (pr_var 3) pr_int) (pg_sub (pv 0) pr_int set_list)))
    (qss_one (qs_ret (pr_callMC 0 Cr (hr.mono (by first | exact Nat.le_refl _ | omega)) (pl_cons (pr_var 0) (pl_cons (pr_var 1) pl_nil)) (consL_len (consL_len nilL_len)))))) qss_nil)
    (qss_cons (qs_put (ps_asg (pr_op op_mod mod_ok (pr_tyc call_int1 int_ok T.n_int bo_int (pl_cons (pr_op op_addZ add_ok (pr_op op_addZ add_ok (pr_op op_mulZ mul_ok (pr_ix ix_seqZ ix_ok (pr_var 0) pr_int (fun _ _ => rfl)) pr_int) (pr_op op_mulZ mul_ok (pr_var 3) pr_int)) (pr_op op_mulZ mul_ok (pr_ix ix_seqZ ix_ok (pr_var 0) pr_int (fun _ _ => rfl)) pr_int)) pl_nil)) pr_int) (pg_sub (pv 0) pr_int set_list)))
    (qss_cons (qs_set 4 sc__law_take.nd (pr_op op_mod mod_ok (pr_tyc call_int1 int_ok T.n_int bo_int (pl_cons (pr_op op_addZ add_ok (pr_op op_addZ add_ok (pr_op op_mulZ mul_ok (pr_ix ix_seqZ ix_ok (pr_var 0) pr_int (fun _ _ => rfl)) (pr_ix ix_seqZ ix_ok (pr_var 0) pr_int (fun _ _ => rfl))) (pr_op op_mulZ mul_ok (pr_ix ix_seqZ ix_ok (pr_var 0) pr_int (fun _ _ => rfl)) pr_int)) pr_int) pl_nil)) pr_int))
    (qss_one (qs_ret (pr_op op_mod mod_ok (pr_tyc call_int1 int_ok T.n_int bo_int (pl_cons (pr_op op_divB div_ok (pr_var 4) pr_int) pl_nil)) (pr_var 1)))))))))))
theorem c__law_take (T : Txt K mg cl) : ∀ n : Nat, Cal P w K mg base "_law_take" (0 + n) ["pool", "many"] (spM K cl 2 (m__law_take n))
  | 0 => (cal_0M T.f__law_take (fun _ _ _ _ _ _ us hl => match us, hl with | [_, _], _ => rfl)).mono (by decide)
  | n + 1 => cr__law_take T (0 + n) (by omega) (c__law_take T n)
theorem c__law_pick (T : Txt K mg cl) : Cal P w K mg base "_law_pick" 3 ["pool", "rows"] (spM K cl 2 m__law_pick) := by
  refine cal_M 2 (N := N__law_pick) T.f__law_pick sc__law_pick (by decide) (fun _ _ _ _ _ _ us hl => match us, hl with | [_, _], _ => rfl) (fun f cdv A outer s H E hr => ?_)
  have hu := hu_room hr
  exact (qss_one (qs_ret (pr_ix ix_seqZ ix_ok (pr_var 1) (pr_callMC 0 (c__law_take T 2) (hr.mono (by decide)) (pl_cons (pr_var 0) (pl_cons (pr_blt call_len_seq len_ok T.n_len bo_len (pl_cons (pr_var 1) pl_nil)) pl_nil)) (consL_len (consL_len nilL_len))) (fun _ _ => rfl))))
theorem c__law_amounts (T : Txt K mg cl) : Cal P w K mg base "_law_amounts" 4 ["pool"] (spM K cl 1 m__law_amounts) := by
  refine cal_M 3 (N := N__law_amounts) T.f__law_amounts sc__law_amounts (by decide) (fun _ _ _ _ _ _ us hl => match us, hl with | [_], _ => rfl) (fun f cdv A outer s H E hr => ?_)
  have hu := hu_room hr
  exact (qss_one (qs_ret (pr_callMC 0 (c__law_pick T) (hr.mono (by decide)) (pl_cons (pr_var 0) (pl_cons (pr_lst (pl_cons (pr_tup (pl_cons (pr_op op_addZ add_ok pr_int (pr_callMC 0 (c__law_take T 2) (hr.mono (by decide)) (pl_cons (pr_var 0) (pl_cons pr_int pl_nil)) (consL_len (consL_len nilL_len)))) (pl_cons pr_int pl_nil)) (consL_len (consL_len nilL_len))) (pl_cons (pr_tup (pl_cons (pr_op op_addZ add_ok pr_int (pr_callMC 0 (c__law_take T 2) (hr.mono (by decide)) (pl_cons (pr_var 0) (pl_cons pr_int pl_nil)) (consL_len (consL_len nilL_len)))) (pl_cons pr_int pl_nil)) (consL_len (consL_len nilL_len))) (pl_cons (pr_tup (pl_cons (pr_op op_addZ add_ok pr_int (pr_callMC 0 (c__law_take T 2) (hr.mono (by decide)) (pl_cons (pr_var 0) (pl_cons pr_int pl_nil)) (consL_len (consL_len nilL_len)))) (pl_cons pr_int pl_nil)) (consL_len (consL_len nilL_len))) (pl_cons (pr_tup (pl_cons pr_int (pl_cons pr_int pl_nil)) (consL_len (consL_len nilL_len))) pl_nil)))) (consL_len (consL_len (consL_len (consL_len nilL_len))))) pl_nil)) (consL_len (consL_len nilL_len)))))
theorem c__law_lowest (T : Txt K mg cl) : Cal P w K mg base "_law_lowest" 1 ["n", "d"] (spP K cl 2 m__law_lowest) := by
  refine cal_P 0 (N := N__law_lowest) T.f__law_lowest sc__law_lowest (by decide) (fun _ _ _ _ _ _ us hl => match us, hl with | [_, _], _ => rfl) (fun f cdv A outer s H E hr => ?_)
  have hu := hu_room hr
  exact (qss_cons (qs_par 2 3 rfl sc__law_lowest.nd (pl_cons (pr_blt call_abs abs_ok T.n_abs bo_abs (pl_cons (pr_var 0) pl_nil)) (pl_cons (pr_var 1) pl_nil)))
    (qss_cons (qs_for (ws := [4]) PassesOwn.never rfl (pi_rng1 T.n_range (pl_cons pr_int pl_nil)) (pg_nm 4 sc__law_lowest.nd) (qss_cons (qs_if (pq_cmp (op_eqZ hu) eq_ok (pr_var 3) pr_int (nomark _)) (qss_one qs_break) qss_nil)
    (qss_one (qs_par 2 3 rfl sc__law_lowest.nd (pl_cons (pr_var 3) (pl_cons (pr_op op_sub sub_ok (pr_var 2) (pr_op op_mulZ mul_ok (pr_var 3) (pr_tyc call_int1 int_ok T.n_int bo_int (pl_cons (pr_op op_divB div_ok (pr_var 2) (pr_var 3)) pl_nil)))) pl_nil))))))
    (qss_one (qs_ret (pr_tup (pl_cons (pr_op op_divB div_ok (pr_var 0) (pr_var 2)) (pl_cons (pr_op op_divB div_ok (pr_var 1) (pr_var 2)) pl_nil)) (consL_len (consL_len nilL_len)))))))
theorem c__law_piece (T : Txt K mg cl) : Cal P w K mg base "_law_piece" 3 ["pool", "kind"] (spM K cl 2 m__law_piece) := by
  refine cal_M 2 (N := N__law_piece) T.f__law_piece sc__law_piece (by decide) (fun _ _ _ _ _ _ us hl => match us, hl with | [_, _], _ => rfl) (fun f cdv A outer s H E hr => ?_)
  have hu := hu_room hr
  exact (qss_cons (qs_if (pq_cmp (op_eqZ hu) eq_ok (pr_var 1) pr_int (nomark _)) (qss_cons (qs_set 2 sc__law_piece.nd (pr_op op_addZ add_ok pr_int (pr_callMC 0 (c__law_take T 2) (hr.mono (by decide)) (pl_cons (pr_var 0) (pl_cons pr_int pl_nil)) (consL_len (consL_len nilL_len)))))
    (qss_one (qs_ret (pr_tup (pl_cons (pr_tup (pl_cons (pr_var 2) (pl_cons pr_int pl_nil)) (consL_len (consL_len nilL_len))) (pl_cons (pr_tup (pl_cons (pr_callMC 0 (c__law_take T 2) (hr.mono (by decide)) (pl_cons (pr_var 0) (pl_cons pr_int pl_nil)) (consL_len (consL_len nilL_len))) (pl_cons pr_int pl_nil)) (consL_len (consL_len nilL_len))) (pl_cons (pr_tup (pl_cons (pr_if (pq_cmp (op_eqZ hu) eq_ok (pr_callMC 0 (c__law_take T 2) (hr.mono (by decide)) (pl_cons (pr_var 0) (pl_cons pr_int pl_nil)) (consL_len (consL_len nilL_len))) pr_int (nomark _)) (pr_callMC 0 (c__law_take T 2) (hr.mono (by decide)) (pl_cons (pr_var 0) (pl_cons (pr_op op_addZ add_ok (pr_var 2) pr_int) pl_nil)) (consL_len (consL_len nilL_len))) pr_int) (pl_cons pr_int pl_nil)) (consL_len (consL_len nilL_len))) pl_nil))) (consL_len (consL_len (consL_len nilL_len))))))) qss_nil)
    (qss_cons (qs_if (pq_cmp (op_eqZ hu) eq_ok (pr_var 1) pr_int (nomark _)) (qss_cons (qs_set 3 sc__law_piece.nd (pr_op op_addZ add_ok pr_int (pr_callMC 0 (c__law_take T 2) (hr.mono (by decide)) (pl_cons (pr_var 0) (pl_cons pr_int pl_nil)) (consL_len (consL_len nilL_len)))))
    (qss_cons (qs_set 2 sc__law_piece.nd (pr_callMC 0 (c__law_take T 2) (hr.mono (by decide)) (pl_cons (pr_var 0) (pl_cons pr_int pl_nil)) (consL_len (consL_len nilL_len))))
    (qss_cons (qs_set 4 sc__law_piece.nd (pr_callMC 0 (c__law_take T 2) (hr.mono (by decide)) (pl_cons (pr_var 0) (pl_cons (pr_op op_addZ add_ok (pr_var 2) pr_int) pl_nil)) (consL_len (consL_len nilL_len))))
    (qss_cons (qs_set 5 sc__law_piece.nd (pr_callC (c__law_lowest T) (hr.mono (by decide)) (pl_cons (pr_callMC 0 (c__law_take T 2) (hr.mono (by decide)) (pl_cons (pr_var 0) (pl_cons pr_int pl_nil)) (consL_len (consL_len nilL_len))) (pl_cons (pr_op op_addZ add_ok pr_int (pr_callMC 0 (c__law_take T 2) (hr.mono (by decide)) (pl_cons (pr_var 0) (pl_cons pr_int pl_nil)) (consL_len (consL_len nilL_len)))) pl_nil)) (consL_len (consL_len nilL_len))))
    (qss_one (qs_ret (pr_tup (pl_cons (pr_callC (c__law_lowest T) (hr.mono (by decide)) (pl_cons (pr_var 2) (pl_cons (pr_var 3) pl_nil)) (consL_len (consL_len nilL_len))) (pl_cons (pr_var 5) (pl_cons (pr_callC (c__law_lowest T) (hr.mono (by decide)) (pl_cons (pr_var 4) (pl_cons (pr_var 3) pl_nil)) (consL_len (consL_len nilL_len))) pl_nil))) (consL_len (consL_len (consL_len nilL_len)))))))))) qss_nil)
    (qss_cons (qs_set 3 sc__law_piece.nd (pr_op op_addZ add_ok pr_int (pr_callMC 0 (c__law_take T 2) (hr.mono (by decide)) (pl_cons (pr_var 0) (pl_cons pr_int pl_nil)) (consL_len (consL_len nilL_len)))))
    (qss_cons (qs_set 2 sc__law_piece.nd (pr_callMC 0 (c__law_take T 2) (hr.mono (by decide)) (pl_cons (pr_var 0) (pl_cons (pr_op op_addZ add_ok (pr_op op_pow pow_ok pr_int pr_int) pr_int) pl_nil)) (consL_len (consL_len nilL_len))))
    (qss_cons (qs_set 4 sc__law_piece.nd (pr_callMC 0 (c__law_take T 2) (hr.mono (by decide)) (pl_cons (pr_var 0) (pl_cons (pr_op op_addZ add_ok (pr_var 2) pr_int) pl_nil)) (consL_len (consL_len nilL_len))))
    (qss_one (qs_ret (pr_tup (pl_cons (pr_callC (c__law_lowest T) (hr.mono (by decide)) (pl_cons (pr_var 2) (pl_cons (pr_var 3) pl_nil)) (consL_len (consL_len nilL_len))) (pl_cons (pr_callC (c__law_lowest T) (hr.mono (by decide)) (pl_cons (pr_callMC 0 (c__law_take T 2) (hr.mono (by decide)) (pl_cons (pr_var 0) (pl_cons (pr_op op_addZ add_ok (pr_op op_pow pow_ok pr_int pr_int) pr_int) pl_nil)) (consL_len (consL_len nilL_len))) (pl_cons (pr_op op_addZ add_ok pr_int (pr_callMC 0 (c__law_take T 2) (hr.mono (by decide)) (pl_cons (pr_var 0) (pl_cons pr_int pl_nil)) (consL_len (consL_len nilL_len)))) pl_nil)) (consL_len (consL_len nilL_len))) (pl_cons (pr_callC (c__law_lowest T) (hr.mono (by decide)) (pl_cons (pr_var 4) (pl_cons (pr_var 3) pl_nil)) (consL_len (consL_len nilL_len))) pl_nil))) (consL_len (consL_len (consL_len nilL_len)))))))))))
theorem c__law_pieces (T : Txt K mg cl) : Cal P w K mg base "_law_pieces" 4 ["pool", "many"] (spM K cl 2 m__law_pieces) := by
  refine cal_M 3 (N := N__law_pieces) T.f__law_pieces sc__law_pieces (by decide) (fun _ _ _ _ _ _ us hl => match us, hl with | [_, _], _ => rfl) (fun f cdv A outer s H E hr => ?_)
  have hu := hu_room hr
  exact (qss_cons (qs_set 2 sc__law_pieces.nd (pr_callMC 0 (c__law_take T 2) (hr.mono (by decide)) (pl_cons (pr_var 0) (pl_cons pr_int pl_nil)) (consL_len (consL_len nilL_len))))
    (qss_cons (qs_set 3 sc__law_pieces.nd (pr_callMC 0 (c__law_take T 2) (hr.mono (by decide)) (pl_cons (pr_var 0) (pl_cons pr_int pl_nil)) (consL_len (consL_len nilL_len))))
    (qss_cons (qs_set 4 sc__law_pieces.nd (pr_tup pl_nil nilL_len))
    (qss_cons (qs_for (ws := [5]) PassesOwn.never rfl (pi_rng1 T.n_range (pl_cons (pr_var 1) pl_nil)) (pg_nm 5 sc__law_pieces.nd) (qss_cons (qs_set 6 sc__law_pieces.nd (pr_callMC 0 (c__law_piece T) (hr.mono (by decide)) (pl_cons (pr_var 0) (pl_cons (pr_var 2) pl_nil)) (consL_len (consL_len nilL_len))))
    (qss_cons (qs_if (pq_and (pq_cmp (op_eqZ hu) eq_ok (pr_var 3) pr_int (nomark _)) (pq_and1 (pq_cmp (op_eqZ hu) eq_ok (pr_callMC 0 (c__law_take T 2) (hr.mono (by decide)) (pl_cons (pr_var 0) (pl_cons pr_int pl_nil)) (consL_len (consL_len nilL_len))) pr_int (nomark _)))).pt (qss_one (qs_set 6 sc__law_pieces.nd (pr_tup (pl_cons (pr_ix ix_seqZ ix_ok (pr_var 6) pr_int (fun _ _ => rfl)) (pl_cons (pr_tup (pl_cons pr_int (pl_cons pr_int pl_nil)) (consL_len (consL_len nilL_len))) (pl_cons (pr_ix ix_seqZ ix_ok (pr_var 6) pr_int (fun _ _ => rfl)) pl_nil))) (consL_len (consL_len (consL_len nilL_len)))))) qss_nil)
    (qss_one (qs_set 4 sc__law_pieces.nd (pr_op op_addZ add_ok (pr_var 4) (pr_tup (pl_cons (pr_var 6) pl_nil) (consL_len nilL_len))))))))
    (qss_one (qs_ret (pr_var 4)))))))
theorem c__law_sum (T : Txt K mg cl) : Cal P w K mg base "_law_sum" 2 ["one", "other"] (spP K cl 2 m__law_sum) := by
  refine cal_P 1 (N := N__law_sum) T.f__law_sum sc__law_sum (by decide) (fun _ _ _ _ _ _ us hl => match us, hl with | [_, _], _ => rfl) (fun f cdv A outer s H E hr => ?_)
  have hu := hu_room hr
  exact (qss_one (qs_ret (pr_callC (c__law_lowest T) (hr.mono (by decide)) (pl_cons (pr_op op_addZ add_ok (pr_op op_mulZ mul_ok (pr_ix ix_seqZ ix_ok (pr_var 0) pr_int (fun _ _ => rfl)) (pr_ix ix_seqZ ix_ok (pr_var 1) pr_int (fun _ _ => rfl))) (pr_op op_mulZ mul_ok (pr_ix ix_seqZ ix_ok (pr_var 1) pr_int (fun _ _ => rfl)) (pr_ix ix_seqZ ix_ok (pr_var 0) pr_int (fun _ _ => rfl)))) (pl_cons (pr_op op_mulZ mul_ok (pr_ix ix_seqZ ix_ok (pr_var 0) pr_int (fun _ _ => rfl)) (pr_ix ix_seqZ ix_ok (pr_var 1) pr_int (fun _ _ => rfl))) pl_nil)) (consL_len (consL_len nilL_len)))))
theorem c__law_room (T : Txt K mg cl) : Cal P w K mg base "_law_room" 3 ["pool", "pieces", "most"] (spM K cl 3 m__law_room) := by
  refine cal_M 2 (N := N__law_room) T.f__law_room sc__law_room (by decide) (fun _ _ _ _ _ _ us hl => match us, hl with | [_, _, _], _ => rfl) (fun f cdv A outer s H E hr => ?_)
  have hu := hu_room hr
  exact (qss_cons (qs_set 3 sc__law_room.nd (pr_callMC 0 (c__law_take T 2) (hr.mono (by decide)) (pl_cons (pr_var 0) (pl_cons (pr_blt call_len_seq len_ok T.n_len bo_len (pl_cons (pr_var 1) pl_nil)) pl_nil)) (consL_len (consL_len nilL_len))))
    (qss_cons (qs_set 4 sc__law_room.nd (pr_tup (pl_cons pr_int (pl_cons pr_int pl_nil)) (consL_len (consL_len nilL_len))))
    (qss_cons (qs_for (ws := [5]) PassesOwn.never rfl (pi_seqZ (pr_sl (pr_var 1) (po_soZ (pr_var 3)) (po_soZ (pr_op op_addZ add_ok (pr_op op_addZ add_ok (pr_var 3) pr_int) (pr_callMC 0 (c__law_take T 2) (hr.mono (by decide)) (pl_cons (pr_var 0) (pl_cons (pr_var 2) pl_nil)) (consL_len (consL_len nilL_len))))))) (pg_nm 5 sc__law_room.nd) (qss_cons (qs_set 6 sc__law_room.nd (pr_callC (c__law_sum T) (hr.mono (by decide)) (pl_cons (pr_var 4) (pl_cons (pr_ix ix_seqZ ix_ok (pr_var 5) pr_int (fun _ _ => rfl)) pl_nil)) (consL_len (consL_len nilL_len))))
    (qss_one (qs_if (pq_and (pq_cmp op_le le_ok (pr_ix ix_seqZ ix_ok (pr_var 6) pr_int (fun _ _ => rfl)) (pr_op op_pow pow_ok pr_int pr_int) (nomark _)) (pq_and1 (pq_cmp op_le le_ok (pr_ix ix_seqZ ix_ok (pr_var 6) pr_int (fun _ _ => rfl)) pr_int (nomark _)))).pt (qss_one (qs_set 4 sc__law_room.nd (pr_var 6))) qss_nil))))
    (qss_cons (qs_set 7 sc__law_room.nd (pr_callMC 0 (c__law_take T 2) (hr.mono (by decide)) (pl_cons (pr_var 0) (pl_cons pr_int pl_nil)) (consL_len (consL_len nilL_len))))
    (qss_cons (qs_if (pq_cmp (op_eqZ hu) eq_ok (pr_var 7) pr_int (nomark _)) (qss_one (qs_set 4 sc__law_room.nd (pr_tup (pl_cons (pr_op op_addZ add_ok (pr_op op_divB div_ok (pr_ix ix_seqZ ix_ok (pr_var 4) pr_int (fun _ _ => rfl)) (pr_ix ix_seqZ ix_ok (pr_var 4) pr_int (fun _ _ => rfl))) (pr_callMC 0 (c__law_take T 2) (hr.mono (by decide)) (pl_cons (pr_var 0) (pl_cons pr_int pl_nil)) (consL_len (consL_len nilL_len)))) (pl_cons pr_int pl_nil)) (consL_len (consL_len nilL_len))))) qss_nil)
    (qss_cons (qs_if (pq_and (pq_cmp (op_eqZ hu) eq_ok (pr_var 7) pr_int (nomark _)) (pq_and1 (pq_cmp (op_eqZ hu) eq_ok (pr_ix ix_seqZ ix_ok (pr_var 4) pr_int (fun _ _ => rfl)) pr_int (nomark _)))).pt (qss_one (qs_set 4 sc__law_room.nd (pr_callC (c__law_lowest T) (hr.mono (by decide)) (pl_cons (pr_op op_addZ add_ok (pr_op op_mulZ mul_ok pr_int (pr_ix ix_seqZ ix_ok (pr_var 4) pr_int (fun _ _ => rfl))) pr_int) (pl_cons pr_int pl_nil)) (consL_len (consL_len nilL_len))))) qss_nil)
    (qss_cons (qs_if (pq_or (pq_cmp (op_eqZ hu) eq_ok (pr_ix ix_seqZ ix_ok (pr_var 4) pr_int (fun _ _ => rfl)) pr_int (nomark _)) (pq_or1 (pq_cmp op_gt gt_ok (pr_ix ix_seqZ ix_ok (pr_var 4) pr_int (fun _ _ => rfl)) (pr_op op_pow pow_ok pr_int pr_int) (nomark _)))).pt (qss_one (qs_ret (pr_tup (pl_cons pr_int (pl_cons pr_int pl_nil)) (consL_len (consL_len nilL_len))))) qss_nil)
    (qss_one (qs_ret (pr_var 4))))))))))
theorem c__law_bad (T : Txt K mg cl) : Cal P w K mg base "_law_bad" 1 ["scaled", "first", "stop"] (spP K cl 3 m__law_bad) := by
  refine cal_P 0 (N := N__law_bad) T.f__law_bad sc__law_bad (by decide) (fun _ _ _ _ _ _ us hl => match us, hl with | [_, _, _], _ => rfl) (fun f cdv A outer s H E hr => ?_)
  have hu := hu_room hr
  exact (qss_cons (qs_asg (ws := [3, 4]) (pr_var 0) (pg_tupZ rfl (pgs_consZ (pg_nm 3 sc__law_bad.nd) (pgs_consZ (pg_nm 4 sc__law_bad.nd) pgs_nilZ))))
    (qss_cons (qs_set 5 sc__law_bad.nd (pr_op op_sub sub_ok (pr_ix ix_seqZ ix_ok (pr_ix ix_seqZ ix_ok (pr_var 3) (pr_var 2) (fun _ _ => rfl)) pr_int (fun _ _ => rfl)) (pr_ix ix_seqZ ix_ok (pr_ix ix_seqZ ix_ok (pr_var 3) (pr_var 1) (fun _ _ => rfl)) pr_int (fun _ _ => rfl))))
    (qss_cons (qs_if (pq_or (pq_cmp (op_eqZ hu) eq_ok (pr_var 5) (pr_var 4) (nomark _)) (pq_or1 (pq_and (pq_cmp (op_lt3 hu) lt3_ok (pr_var 5) (pr_var 4) (nomark _)) (pq_and1 (pq_cmp (op_eqZ hu) eq_ok (pr_var 2) (pr_op op_sub sub_ok (pr_blt call_len_seq len_ok T.n_len bo_len (pl_cons (pr_var 3) pl_nil)) pr_int) (nomark _)))).pt)).pt (qss_one (qs_ret pr_int)) qss_nil)
    (qss_cons (qs_set 6 sc__law_bad.nd (pr_op op_sub sub_ok (pr_ix ix_seqZ ix_ok (pr_ix ix_seqZ ix_ok (pr_var 3) (pr_var 2) (fun _ _ => rfl)) pr_int (fun _ _ => rfl)) (pr_ix ix_seqZ ix_ok (pr_ix ix_seqZ ix_ok (pr_var 3) (pr_var 1) (fun _ _ => rfl)) pr_int (fun _ _ => rfl))))
    (qss_cons (qs_if (pq_cmp op_gt gt_ok (pr_var 5) (pr_var 4) (nomark _)) (qss_cons (qs_set 6 sc__law_bad.nd (pr_op op_sub sub_ok (pr_ix ix_seqZ ix_ok (pr_ix ix_seqZ ix_ok (pr_var 3) (pr_var 2) (fun _ _ => rfl)) pr_int (fun _ _ => rfl)) (pr_ix ix_seqZ ix_ok (pr_ix ix_seqZ ix_ok (pr_var 3) (pr_var 1) (fun _ _ => rfl)) pr_int (fun _ _ => rfl))))
    (qss_one (qs_if (pq_cmp op_gt gt_ok (pr_op op_sub sub_ok (pr_var 5) (pr_var 6)) (pr_var 4) (nomark _)) (qss_one (qs_ret pr_non)) qss_nil))) qss_nil)
    (qss_cons (qs_if (pq_cmp (op_eqZ hu) eq_ok (pr_var 6) pr_int (nomark _)) (qss_one (qs_ret pr_non)) qss_nil)
    (qss_one (qs_ret (pr_op op_divB div_ok (pr_op op_mulZ mul_ok (pr_op op_mulZ mul_ok pr_int (pr_op op_sub sub_ok (pr_var 5) (pr_var 4))) (pr_op op_sub sub_ok (pr_var 5) (pr_var 4))) (pr_op op_mulZ mul_ok (pr_var 6) (pr_var 6)))))))))))
theorem c__law_fitting (T : Txt K mg cl) : Cal P w K mg base "_law_fitting" 2 ["scaled"] (spP K cl 1 m__law_fitting) := by
  refine cal_P 1 (N := N__law_fitting) T.f__law_fitting sc__law_fitting (by decide) (fun _ _ _ _ _ _ us hl => match us, hl with | [_], _ => rfl) (fun f cdv A outer s H E hr => ?_)
  have hu := hu_room hr
  exact (qss_cons (qs_set 1 sc__law_fitting.nd (pr_lst pl_nil nilL_len))
    (qss_cons (qs_set 2 sc__law_fitting.nd (pr_op op_sub sub_ok (pr_blt call_len_seq len_ok T.n_len bo_len (pl_cons (pr_ix ix_seqZ ix_ok (pr_var 0) pr_int (fun _ _ => rfl)) pl_nil)) pr_int))
    (qss_cons (qs_for (ws := [3]) PassesOwn.never rfl (pi_rng1 T.n_range (pl_cons (pr_var 2) pl_nil)) (pg_nm 3 sc__law_fitting.nd) (qss_cons (qs_set 4 sc__law_fitting.nd (pr_lst pl_nil nilL_len))
    (qss_cons (qs_for (ws := [5]) PassesOwn.never rfl (pi_rng2 T.n_range (pl_cons (pr_op op_addZ add_ok (pr_var 3) pr_int) (pl_cons (pr_op op_addZ add_ok (pr_var 2) pr_int) pl_nil))) (pg_nm 5 sc__law_fitting.nd) (qss_cons (qs_if (pq_cmp op_gt gt_ok (pr_op op_addZ add_ok (pr_op op_sub sub_ok (pr_op op_sub sub_ok (pr_ix ix_seqZ ix_ok (pr_ix ix_seqZ ix_ok (pr_ix ix_seqZ ix_ok (pr_var 0) pr_int (fun _ _ => rfl)) (pr_var 5) (fun _ _ => rfl)) pr_int (fun _ _ => rfl)) (pr_ix ix_seqZ ix_ok (pr_ix ix_seqZ ix_ok (pr_ix ix_seqZ ix_ok (pr_var 0) pr_int (fun _ _ => rfl)) (pr_var 3) (fun _ _ => rfl)) pr_int (fun _ _ => rfl))) (pr_ix ix_seqZ ix_ok (pr_ix ix_seqZ ix_ok (pr_ix ix_seqZ ix_ok (pr_var 0) pr_int (fun _ _ => rfl)) (pr_var 5) (fun _ _ => rfl)) pr_int (fun _ _ => rfl))) (pr_ix ix_seqZ ix_ok (pr_ix ix_seqZ ix_ok (pr_ix ix_seqZ ix_ok (pr_var 0) pr_int (fun _ _ => rfl)) (pr_var 3) (fun _ _ => rfl)) pr_int (fun _ _ => rfl))) (pr_ix ix_seqZ ix_ok (pr_var 0) pr_int (fun _ _ => rfl)) (nomark _)) (qss_one qs_break) qss_nil)
    (qss_cons (qs_set 6 sc__law_fitting.nd (pr_callC (c__law_bad T) (hr.mono (by decide)) (pl_cons (pr_var 0) (pl_cons (pr_var 3) (pl_cons (pr_var 5) pl_nil))) (consL_len (consL_len (consL_len nilL_len)))))
    (qss_one (qs_if (pq_notN (pr_var 6)) (qss_one (qs_app (ps_expr (pe_bm PySem.F.plainAttrs_list PySem.F.slot_list_append PySem.F.type_list_append mt_append (pv 4) (pa_cons (pr_tup (pl_cons (pr_var 5) (pl_cons (pr_var 6) pl_nil)) (consL_len (consL_len nilL_len))) pa_nil))))) qss_nil)))))
    (qss_one (qs_app (ps_expr (pe_bm PySem.F.plainAttrs_list PySem.F.slot_list_append PySem.F.type_list_append mt_append (pv 1) (pa_cons (pr_var 4) pa_nil))))))))
    (qss_one (qs_ret (pr_var 1))))))
theorem c__law_below (T : Txt K mg cl) : Cal P w K mg base "_law_below" 3 ["pool", "many"] (spM K cl 2 m__law_below) := by
  refine cal_M 2 (N := N__law_below) T.f__law_below sc__law_below (by decide) (fun _ _ _ _ _ _ us hl => match us, hl with | [_, _], _ => rfl) (fun f cdv A outer s H E hr => ?_)
  have hu := hu_room hr
  exact (qss_cons (qs_set 2 sc__law_below.nd pr_int)
    (qss_cons (qs_for (ws := [3]) PassesOwn.never rfl (pi_rng1 T.n_range (pl_cons pr_int pl_nil)) (pg_nm 3 sc__law_below.nd) (qss_one (qs_set 2 sc__law_below.nd (pr_op op_addZ add_ok (pr_op op_mulZ mul_ok (pr_var 2) (pr_op op_pow pow_ok pr_int pr_int)) (pr_callMC 0 (c__law_take T 2) (hr.mono (by decide)) (pl_cons (pr_var 0) (pl_cons (pr_op op_pow pow_ok pr_int pr_int) pl_nil)) (consL_len (consL_len nilL_len)))))))
    (qss_one (qs_ret (pr_op op_mod mod_ok (pr_tyc call_int1 int_ok T.n_int bo_int (pl_cons (pr_var 2) pl_nil)) (pr_var 1))))))
theorem c__law_turn_costs (T : Txt K mg cl) : Cal P w K mg base "_law_turn_costs" 4 ["pool", "many"] (spM K cl 2 m__law_turn_costs) := by
  refine cal_M 3 (N := N__law_turn_costs) T.f__law_turn_costs sc__law_turn_costs (by decide) (fun _ _ _ _ _ _ us hl => match us, hl with | [_, _], _ => rfl) (fun f cdv A outer s H E hr => ?_)
  have hu := hu_room hr
  exact (qss_cons (qs_set 2 sc__law_turn_costs.nd (pr_callMC 0 (c__law_pick T) (hr.mono (by decide)) (pl_cons (pr_var 0) (pl_cons (pr_lst (pl_cons pr_int (pl_cons pr_int (pl_cons pr_int (pl_cons (pr_op op_addZ add_ok (pr_op op_pow pow_ok pr_int pr_int) pr_int) pl_nil)))) (consL_len (consL_len (consL_len (consL_len nilL_len))))) pl_nil)) (consL_len (consL_len nilL_len))))
    (qss_one (qs_ret (pr_tyc call_tuple_of tuple_ok T.n_tuple bo_tuple (pl_cons (pr_lc (own := [("k", 3)]) rfl sc__law_turn_costs.nd (pi_rng1 T.n_range (pl_cons (pr_var 1) pl_nil)) (blkOk_by (by first | (show blkC N__law_turn_costs (defScope st__law_turn_costs) _ _ = true; decide +kernel) | with_unfolding_all rfl)) (fun _ _ _ _ _ => (pg_nm 3 sc__law_turn_costs.nd)) (fun _ _ _ _ _ => pts_nilZ) (fun _ _ _ _ _ => (pr_if (pq_cmp (op_eqZ hu) eq_ok (pr_callMC 0 (c__law_take T 2) (hr.mono (by decide)) (pl_cons (pr_var 0) (pl_cons pr_int pl_nil)) (consL_len (consL_len nilL_len))) pr_int (nomark _)) pr_non (pr_callMC 0 (c__law_below T) (hr.mono (by decide)) (pl_cons (pr_var 0) (pl_cons (pr_var 2) pl_nil)) (consL_len (consL_len nilL_len)))))) pl_nil)))))
theorem c__law_steps (T : Txt K mg cl) : Cal P w K mg base "_law_steps" 1 ["lines", "pages", "place"] (spP K cl 3 m__law_steps) := by
  refine cal_P 0 (N := N__law_steps) T.f__law_steps sc__law_steps (by decide) (fun _ _ _ _ _ _ us hl => match us, hl with | [_, _, _], _ => rfl) (fun f cdv A outer s H E hr => ?_)
  have hu := hu_room hr
  exact (qss_cons (qs_asg (ws := [3, 4, 5]) (pr_var 1) (pg_tupZ rfl (pgs_consZ (pg_nm 3 sc__law_steps.nd) (pgs_consZ (pg_nm 4 sc__law_steps.nd) (pgs_consZ (pg_nm 5 sc__law_steps.nd) pgs_nilZ)))))
    (qss_cons (qs_asg (ws := [6, 7]) (pr_var 2) (pg_tupZ rfl (pgs_consZ (pg_nm 6 sc__law_steps.nd) (pgs_consZ (pg_nm 7 sc__law_steps.nd) pgs_nilZ))))
    (qss_cons (qs_if (pq_cmp (op_eqZ hu) eq_ok (pr_var 6) (pr_blt call_len_seq len_ok T.n_len bo_len (pl_cons (pr_var 0) pl_nil)) (nomark _)) (qss_one (qs_ret (pr_lst pl_nil nilL_len))) qss_nil)
    (qss_cons (qs_set 8 sc__law_steps.nd (pr_lst pl_nil nilL_len))
    (qss_cons (qs_if (pq_and (pq_cmp op_ge ge_ok (pr_var 7) (pr_var 4) (nomark _)) (pq_and1 (pq_notN (pr_ix ix_seqZ ix_ok (pr_var 3) (pr_var 6) (fun _ _ => rfl))))).pt (qss_one (qs_app (ps_expr (pe_bm PySem.F.plainAttrs_list PySem.F.slot_list_append PySem.F.type_list_append mt_append (pv 8) (pa_cons (pr_tup (pl_cons (pr_tup (pl_cons (pr_var 6) (pl_cons pr_int pl_nil)) (consL_len (consL_len nilL_len))) (pl_cons (pr_ix ix_seqZ ix_ok (pr_var 3) (pr_var 6) (fun _ _ => rfl)) pl_nil)) (consL_len (consL_len nilL_len))) pa_nil))))) qss_nil)
    (qss_cons (qs_if (pq_cmp (op_lt3 hu) lt3_ok (pr_var 7) (pr_var 5) (nomark _)) (qss_one (qs_set 8 sc__law_steps.nd (pr_op op_addZ add_ok (pr_var 8) (pr_lc (own := [("stop", 9), ("bad", 10)]) rfl sc__law_steps.nd (pi_seqZ (pr_ix ix_seqZ ix_ok (pr_var 0) (pr_var 6) (fun _ _ => rfl))) (blkOk_by (by first | (show blkC N__law_steps (defScope st__law_steps) _ _ = true; decide +kernel) | with_unfolding_all rfl)) (fun _ _ _ _ _ => (pg_tupZ rfl (pgs_consZ (pg_nm 9 sc__law_steps.nd) (pgs_consZ (pg_nm 10 sc__law_steps.nd) pgs_nilZ)))) (fun _ _ _ _ _ => pts_nilZ) (fun _ _ _ _ _ => (pr_tup (pl_cons (pr_tup (pl_cons (pr_var 9) (pl_cons (pr_op op_addZ add_ok (pr_var 7) pr_int) pl_nil)) (consL_len (consL_len nilL_len))) (pl_cons (pr_var 10) pl_nil)) (consL_len (consL_len nilL_len)))))))) qss_nil)
    (qss_one (qs_ret (pr_var 8)))))))))
theorem c__law_least (T : Txt K mg cl) : Cal P w K mg base "_law_least" 2 ["lines", "pages"] (spP K cl 2 m__law_least) := by
  refine cal_P 1 (N := N__law_least) T.f__law_least sc__law_least (by decide) (fun _ _ _ _ _ _ us hl => match us, hl with | [_, _], _ => rfl) (fun f cdv A outer s H E hr => ?_)
  have hu := hu_room hr
  exact (qss_cons (qs_set 2 sc__law_least.nd (pr_disp hu (pr_tup (pl_cons pr_int (pl_cons pr_int pl_nil)) (consL_len (consL_len nilL_len))) pr_int))
    (qss_cons (qs_for (ws := [3]) PassesOwn.never rfl (pi_rng1 T.n_range (pl_cons (pr_blt call_len_seq len_ok T.n_len bo_len (pl_cons (pr_var 0) pl_nil)) pl_nil)) (pg_nm 3 sc__law_least.nd) (qss_one (qs_for (ws := [4]) PassesOwn.never rfl (pi_rng3 T.n_range (pl_cons (pr_ix ix_seqZ ix_ok (pr_var 1) pr_int (fun _ _ => rfl)) (pl_cons (pr_neg pr_int) (pl_cons (pr_neg pr_int) pl_nil)))) (pg_nm 4 sc__law_least.nd) (qss_one (qs_if (pq_din hu (pr_tup (pl_cons (pr_var 3) (pl_cons (pr_var 4) pl_nil)) (consL_len (consL_len nilL_len))) (pr_var 2)) (qss_one (qs_for (ws := [5, 6]) PassesOwn.never rfl (pi_seqZ (pr_callC (c__law_steps T) (hr.mono (by decide)) (pl_cons (pr_var 0) (pl_cons (pr_var 1) (pl_cons (pr_tup (pl_cons (pr_var 3) (pl_cons (pr_var 4) pl_nil)) (consL_len (consL_len nilL_len))) pl_nil))) (consL_len (consL_len (consL_len nilL_len))))) (pg_tupZ rfl (pgs_consZ (pg_nm 5 sc__law_least.nd) (pgs_consZ (pg_nm 6 sc__law_least.nd) pgs_nilZ))) (qss_cons (qs_set 7 sc__law_least.nd (pr_op op_addZ add_ok (pr_dg hu (pr_var 2) (pr_tup (pl_cons (pr_var 3) (pl_cons (pr_var 4) pl_nil)) (consL_len (consL_len nilL_len))) (fun _ _ => rfl)) (pr_var 6)))
    (qss_one (qs_if (pq_or (pq_dni hu (pr_var 5) (pr_var 2)) (pq_or1 (pq_cmp (op_lt3 hu) lt3_ok (pr_var 7) (pr_dg hu (pr_var 2) (pr_var 5) (fun _ _ => rfl)) (nomark _)))).pt (qss_one (qs_dput (ps_dput (hu1 hu) (pv 2) (pr_var 5) (pr_var 7) (by rfl)))) qss_nil))))) qss_nil)))))
    (qss_one (qs_ret (pr_var 2)))))
theorem cm_Pages_places (T : Txt K mg cl) : CalM P w K mg base (cl "Pages") "places" 1 ["self"] (spP K cl 1 m_Pages_places) := by
  refine calm_P 0 (N := N_Pages_places) T.mt_Pages_places sc_Pages_places (by decide) (fun _ _ _ _ _ _ us hl => match us, hl with | [_], _ => rfl) (fun f cdv A outer s H E hr => ?_)
  have hu := hu_room hr
  exact (qss_cons (qs_set 1 sc_Pages_places.nd (pr_lst pl_nil nilL_len))
    (qss_cons (qs_for (ws := [2]) PassesOwn.never rfl (pi_rng1 T.n_range (pl_cons (pr_op op_addZ add_ok (pr_fld "Pages" T.cls_Pages T.na_Pages_many (pr_var 0)) pr_int) pl_nil)) (pg_nm 2 sc_Pages_places.nd) (qss_one (qs_ext (ps_expr (pe_bm PySem.F.plainAttrs_list PySem.F.slot_list_extend PySem.F.type_list_extend mt_extend (pv 1) (pa_cons (pr_lc (own := [("many", 3)]) rfl sc_Pages_places.nd (pi_rng3 T.n_range (pl_cons (pr_fld "Pages" T.cls_Pages T.na_Pages_most (pr_var 0)) (pl_cons (pr_neg pr_int) (pl_cons (pr_neg pr_int) pl_nil)))) (blkOk_by (by first | (show blkC N_Pages_places (defScope st_Pages_places) _ _ = true; decide +kernel) | with_unfolding_all rfl)) (fun _ _ _ _ _ => (pg_nm 3 sc_Pages_places.nd)) (fun _ _ _ _ _ => pts_nilZ) (fun _ _ _ _ _ => (pr_tup (pl_cons (pr_var 2) (pl_cons (pr_var 3) pl_nil)) (consL_len (consL_len nilL_len))))) pa_nil))))))
    (qss_one (qs_ret (pr_var 1)))))
theorem cm_Pages_turn (T : Txt K mg cl) : CalM P w K mg base (cl "Pages") "turn" 1 ["self", "place"] (spP K cl 2 m_Pages_turn) := by
  refine calm_P 0 (N := N_Pages_turn) T.mt_Pages_turn sc_Pages_turn (by decide) (fun _ _ _ _ _ _ us hl => match us, hl with | [_, _], _ => rfl) (fun f cdv A outer s H E hr => ?_)
  have hu := hu_room hr
  exact (qss_cons (qs_asg (ws := [2, 3]) (pr_var 1) (pg_tupZ rfl (pgs_consZ (pg_nm 2 sc_Pages_turn.nd) (pgs_consZ (pg_nm 3 sc_Pages_turn.nd) pgs_nilZ))))
    (qss_one (qs_ret (pr_if (pq_and (pq_cmp op_ge ge_ok (pr_var 3) (pr_fld "Pages" T.cls_Pages T.na_Pages_least (pr_var 0)) (nomark _)) (pq_and1 (pq_cmp (op_lt3 hu) lt3_ok (pr_var 2) (pr_fld "Pages" T.cls_Pages T.na_Pages_many (pr_var 0)) (nomark _)))).pt (pr_ix ix_seqZ ix_ok (pr_fld "Pages" T.cls_Pages T.na_Pages_turns (pr_var 0)) (pr_var 2) (fun _ _ => rfl)) pr_non))))
theorem cm_Pages_by_lines (T : Txt K mg cl) : CalM P w K mg base (cl "Pages") "by_lines" 1 ["self", "place"] (spP K cl 2 m_Pages_by_lines) := by
  refine calm_P 0 (N := N_Pages_by_lines) T.mt_Pages_by_lines sc_Pages_by_lines (by decide) (fun _ _ _ _ _ _ us hl => match us, hl with | [_, _], _ => rfl) (fun f cdv A outer s H E hr => ?_)
  have hu := hu_room hr
  exact (qss_cons (qs_asg (ws := [2, 3]) (pr_var 1) (pg_tupZ rfl (pgs_consZ (pg_nm 2 sc_Pages_by_lines.nd) (pgs_consZ (pg_nm 3 sc_Pages_by_lines.nd) pgs_nilZ))))
    (qss_cons (qs_if (pq_or (pq_cmp (op_eqZ hu) eq_ok (pr_var 2) (pr_fld "Pages" T.cls_Pages T.na_Pages_many (pr_var 0)) (nomark _)) (pq_or1 (pq_cmp (op_eqZ hu) eq_ok (pr_var 3) (pr_fld "Pages" T.cls_Pages T.na_Pages_most (pr_var 0)) (nomark _)))).pt (qss_one (qs_ret (pr_lst pl_nil nilL_len))) qss_nil)
    (qss_one (qs_ret (pr_lc (own := [("stop", 4), ("bad", 5)]) rfl sc_Pages_by_lines.nd (pi_seqZ (pr_ix ix_seqZ ix_ok (pr_fld "Pages" T.cls_Pages T.na_Pages__from (pr_var 0)) (pr_var 2) (fun _ _ => rfl))) (blkOk_by (by first | (show blkC N_Pages_by_lines (defScope st_Pages_by_lines) _ _ = true; decide +kernel) | with_unfolding_all rfl)) (fun _ _ _ _ _ => (pg_tupZ rfl (pgs_consZ (pg_nm 4 sc_Pages_by_lines.nd) (pgs_consZ (pg_nm 5 sc_Pages_by_lines.nd) pgs_nilZ)))) (fun _ _ _ _ _ => pts_nilZ) (fun _ _ _ _ _ => (pr_tup (pl_cons (pr_tup (pl_cons (pr_var 4) (pl_cons (pr_op op_addZ add_ok (pr_var 3) pr_int) pl_nil)) (consL_len (consL_len nilL_len))) (pl_cons (pr_var 5) pl_nil)) (consL_len (consL_len nilL_len)))))))))
theorem cm_Pages_following (T : Txt K mg cl) : CalM P w K mg base (cl "Pages") "following" 2 ["self", "place"] (spP K cl 2 m_Pages_following) := by
  refine calm_P 1 (N := N_Pages_following) T.mt_Pages_following sc_Pages_following (by decide) (fun _ _ _ _ _ _ us hl => match us, hl with | [_, _], _ => rfl) (fun f cdv A outer s H E hr => ?_)
  have hu := hu_room hr
  exact (qss_cons (qs_set 2 sc_Pages_following.nd (pr_methC (cm_Pages_turn T) T.cls_Pages (hr.mono (by decide)) (pr_var 0) (pl_cons (pr_var 1) pl_nil) (fun a b c h => congrArg (· + 1) ((consL_len nilL_len) a b c h))))
    (qss_cons (qs_set 3 sc_Pages_following.nd (pr_if (pq_isN (pr_var 2)) (pr_lst pl_nil nilL_len) (pr_lst (pl_cons (pr_tup (pl_cons (pr_tup (pl_cons (pr_ix ix_seqZ ix_ok (pr_var 1) pr_int (fun _ _ => rfl)) (pl_cons pr_int pl_nil)) (consL_len (consL_len nilL_len))) (pl_cons (pr_var 2) pl_nil)) (consL_len (consL_len nilL_len))) pl_nil) (consL_len nilL_len))))
    (qss_one (qs_ret (pr_op op_addZ add_ok (pr_var 3) (pr_methC (cm_Pages_by_lines T) T.cls_Pages (hr.mono (by decide)) (pr_var 0) (pl_cons (pr_var 1) pl_nil) (fun a b c h => congrArg (· + 1) ((consL_len nilL_len) a b c h))))))))
theorem c_best_behind (T : Txt K mg cl) : Cal P w K mg base "best_behind" 3 ["pages"] (spP K cl 1 m_best_behind) := by
  refine cal_P 2 (N := N_best_behind) T.f_best_behind sc_best_behind (by decide) (fun _ _ _ _ _ _ us hl => match us, hl with | [_], _ => rfl) (fun f cdv A outer s H E hr => ?_)
  have hu := hu_room hr
  exact (qss_cons (qs_set 1 sc_best_behind.nd pr_dnew)
    (qss_cons (qs_for (ws := [2]) PassesOwn.never rfl (pi_seqZ (pr_rev (pe_revL (pr_methC0 (cm_Pages_places T) T.cls_Pages (hr.mono (by decide)) (pr_var 0))))) (pg_nm 2 sc_best_behind.nd) (qss_cons (qs_set 3 sc_best_behind.nd pr_non)
    (qss_cons (qs_if (pq_and (pq_cmp (op_eqZ hu) eq_ok (pr_ix ix_seqZ ix_ok (pr_var 2) pr_int (fun _ _ => rfl)) (pr_fld "Pages" T.cls_Pages T.na_Pages_many (pr_var 0)) (nomark _)) (pq_and1 (pq_cmp op_gt gt_ok (pr_ix ix_seqZ ix_ok (pr_var 2) pr_int (fun _ _ => rfl)) pr_int (nomark _)))).pt (qss_one (qs_set 3 sc_best_behind.nd (pr_tup (pl_cons (pr_tup (pl_cons pr_int (pl_cons pr_int (pl_cons pr_int pl_nil))) (consL_len (consL_len (consL_len nilL_len)))) (pl_cons pr_non pl_nil)) (consL_len (consL_len nilL_len))))) qss_nil)
    (qss_cons (qs_for (ws := [4, 5]) PassesOwn.never rfl (pi_seqZ (pr_methC (cm_Pages_following T) T.cls_Pages (hr.mono (by decide)) (pr_var 0) (pl_cons (pr_var 2) pl_nil) (fun a b c h => congrArg (· + 1) ((consL_len nilL_len) a b c h)))) (pg_tupZ rfl (pgs_consZ (pg_nm 4 sc_best_behind.nd) (pgs_consZ (pg_nm 5 sc_best_behind.nd) pgs_nilZ))) (qss_one (qs_if (pq_din hu (pr_var 4) (pr_var 1)) (qss_cons (qs_set 6 sc_best_behind.nd (pr_ix ix_seqZ ix_ok (pr_dg hu (pr_var 1) (pr_var 4) (fun _ _ => rfl)) pr_int (fun _ _ => rfl)))
    (qss_cons (qs_set 7 sc_best_behind.nd (pr_cmp (op_eqZ hu) eq_ok (pr_ix ix_seqZ ix_ok (pr_var 4) pr_int (fun _ _ => rfl)) (pr_ix ix_seqZ ix_ok (pr_var 2) pr_int (fun _ _ => rfl)) (nomark _)))
    (qss_cons (qs_set 8 sc_best_behind.nd (pr_tup (pl_cons (pr_op op_addZ add_ok (pr_ix ix_seqZ ix_ok (pr_var 6) pr_int (fun _ _ => rfl)) (pr_var 5)) (pl_cons (pr_op op_addZ add_ok (pr_ix ix_seqZ ix_ok (pr_var 6) pr_int (fun _ _ => rfl)) (pr_tyc call_int1 int_ok T.n_int bo_int (pl_cons (pr_var 7) pl_nil))) (pl_cons (pr_op op_addZ add_ok (pr_ix ix_seqZ ix_ok (pr_var 6) pr_int (fun _ _ => rfl)) (pr_tyc call_int1 int_ok T.n_int bo_int (pl_cons (pr_not (pr_var 7)) pl_nil))) pl_nil))) (consL_len (consL_len (consL_len nilL_len)))))
    (qss_one (qs_if (pq_or (pq_isN (pr_var 3)) (pq_or1 (pq_cmp (op_lt3 hu) lt3_ok (pr_var 8) (pr_ix ix_seqZ ix_ok (pr_var 3) pr_int (fun _ _ => rfl)) (nomark _)))).pt (qss_one (qs_set 3 sc_best_behind.nd (pr_tup (pl_cons (pr_var 8) (pl_cons (pr_var 4) pl_nil)) (consL_len (consL_len nilL_len))))) qss_nil))))) qss_nil)))
    (qss_one (qs_if (pq_notN (pr_var 3)) (qss_one (qs_dput (ps_dput (hu1 hu) (pv 1) (pr_var 2) (pr_var 3) (by rfl)))) qss_nil))))))
    (qss_one (qs_ret (pr_var 1)))))
theorem c_is_fraction (T : Txt K mg cl) : Cal P w K mg base "is_fraction" 1 ["value"] (spP K cl 1 m_is_fraction) := by
  refine cal_P 0 (N := N_is_fraction) T.f_is_fraction sc_is_fraction (by decide) (fun _ _ _ _ _ _ us hl => match us, hl with | [_], _ => rfl) (fun f cdv A outer s H E hr => ?_)
  have hu := hu_room hr
  exact (qss_cons (qs_if (pq_or (pq_not (pq_val (pr_blt call_isiZ isi_ok T.n_isinstance bo_isinstance (pl_cons (pr_var 0) (pl_cons (pr_tup (pl_cons (pr_ty T.n_tuple bo_tuple) (pl_cons (pr_ty T.n_list bo_list) pl_nil)) (consL_len (consL_len nilL_len))) pl_nil))))) (pq_or1 (pq_cmp (op_neZ hu) ne_ok (pr_blt call_len_seq len_ok T.n_len bo_len (pl_cons (pr_var 0) pl_nil)) pr_int (nomark _)))).pt (qss_one (qs_ret pr_bl)) qss_nil)
    (qss_cons (qs_if (pq_val (pr_blt (cr_any rfl) any_ok T.n_any bo_any (pl_cons (pr_lc (own := [("part", 1)]) rfl sc_is_fraction.nd (pi_seqZ (pr_var 0)) (blkOk_by (by first | (show blkC N_is_fraction (defScope st_is_fraction) _ _ = true; decide +kernel) | with_unfolding_all rfl)) (fun _ _ _ _ _ => (pg_nm 1 sc_is_fraction.nd)) (fun _ _ _ _ _ => pts_nilZ) (fun _ _ _ _ _ => (pr_or (pr_blt call_isiZ isi_ok T.n_isinstance bo_isinstance (pl_cons (pr_var 1) (pl_cons (pr_ty T.n_bool bo_bool) pl_nil))) (pr_one (pr_not (pr_blt call_isiZ isi_ok T.n_isinstance bo_isinstance (pl_cons (pr_var 1) (pl_cons (pr_ty T.n_int bo_int) pl_nil)))))))) pl_nil))) (qss_one (qs_ret pr_bl)) qss_nil)
    (qss_one (qs_ret (pr_and (pr_cmp op_gt gt_ok (pr_ix ix_seqZ ix_ok (pr_var 0) pr_int (fun _ _ => rfl)) pr_int (nomark _)) (pr_one (pr_cmp (op_eqZ hu) eq_ok (pr_bfun cr_gcd gcd_ok T.b_gcd (pl_cons (pr_ix ix_seqZ ix_ok (pr_var 0) pr_int (fun _ _ => rfl)) (pl_cons (pr_ix ix_seqZ ix_ok (pr_var 0) pr_int (fun _ _ => rfl)) pl_nil))) pr_int (nomark _))))))))
theorem c_is_part (T : Txt K mg cl) : Cal P w K mg base "is_part" 2 ["value"] (spP K cl 1 m_is_part) := by
  refine cal_P 1 (N := N_is_part) T.f_is_part sc_is_part (by decide) (fun _ _ _ _ _ _ us hl => match us, hl with | [_], _ => rfl) (fun f cdv A outer s H E hr => ?_)
  have hu := hu_room hr
  exact (qss_one (qs_ret (pr_and (pr_callC (c_is_fraction T) (hr.mono (by decide)) (pl_cons (pr_var 0) pl_nil) (consL_len nilL_len)) (pr_and (pr_chain op_le le_ok op_le le_ok pr_int (pr_ix ix_seqZ ix_ok (pr_var 0) pr_int (fun _ _ => rfl)) (pr_gint T.i_MOST_TOP) ) (pr_one (pr_cmp op_le le_ok (pr_ix ix_seqZ ix_ok (pr_var 0) pr_int (fun _ _ => rfl)) (pr_gint T.i_MOST_BOTTOM) (nomark _)))))))
theorem c_is_piece (T : Txt K mg cl) : Cal P w K mg base "is_piece" 3 ["value"] (spP K cl 1 m_is_piece) := by
  refine cal_P 2 (N := N_is_piece) T.f_is_piece sc_is_piece (by decide) (fun _ _ _ _ _ _ us hl => match us, hl with | [_], _ => rfl) (fun f cdv A outer s H E hr => ?_)
  have hu := hu_room hr
  exact (qss_cons (qs_if (pq_or (pq_not (pq_val (pr_blt call_isiZ isi_ok T.n_isinstance bo_isinstance (pl_cons (pr_var 0) (pl_cons (pr_tup (pl_cons (pr_ty T.n_tuple bo_tuple) (pl_cons (pr_ty T.n_list bo_list) pl_nil)) (consL_len (consL_len nilL_len))) pl_nil))))) (pq_or (pq_cmp (op_neZ hu) ne_ok (pr_blt call_len_seq len_ok T.n_len bo_len (pl_cons (pr_var 0) pl_nil)) pr_int (nomark _)) (pq_or1 (pq_not (pq_val (pr_blt (cr_all rfl) all_ok T.n_all bo_all (pl_cons (pr_lc (own := [("part", 1)]) rfl sc_is_piece.nd (pi_seqZ (pr_var 0)) (blkOk_by (by first | (show blkC N_is_piece (defScope st_is_piece) _ _ = true; decide +kernel) | with_unfolding_all rfl)) (fun _ _ _ _ _ => (pg_nm 1 sc_is_piece.nd)) (fun _ _ _ _ _ => pts_nilZ) (fun _ _ _ _ _ => (pr_callC (c_is_part T) (hr.mono (by decide)) (pl_cons (pr_var 1) pl_nil) (consL_len nilL_len)))) pl_nil))))))).pt (qss_one (qs_ret pr_bl)) qss_nil)
    (qss_one (qs_ret (pr_cmp op_le le_ok (pr_op op_mulZ mul_ok (pr_ix ix_seqZ ix_ok (pr_ix ix_seqZ ix_ok (pr_var 0) pr_int (fun _ _ => rfl)) pr_int (fun _ _ => rfl)) (pr_ix ix_seqZ ix_ok (pr_ix ix_seqZ ix_ok (pr_var 0) pr_int (fun _ _ => rfl)) pr_int (fun _ _ => rfl))) (pr_op op_mulZ mul_ok (pr_ix ix_seqZ ix_ok (pr_ix ix_seqZ ix_ok (pr_var 0) pr_int (fun _ _ => rfl)) pr_int (fun _ _ => rfl)) (pr_ix ix_seqZ ix_ok (pr_ix ix_seqZ ix_ok (pr_var 0) pr_int (fun _ _ => rfl)) pr_int (fun _ _ => rfl))) (nomark _)))))
theorem c_check_pieces (T : Txt K mg cl) : Cal P w K mg base "check_pieces" 4 ["pieces"] (spP K cl 1 m_check_pieces) := by
  refine cal_P 3 (N := N_check_pieces) T.f_check_pieces sc_check_pieces (by decide) (fun _ _ _ _ _ _ us hl => match us, hl with | [_], _ => rfl) (fun f cdv A outer s H E hr => ?_)
  have hu := hu_room hr
  exact (qss_cons (qs_if (pq_or (pq_not (pq_val (pr_blt call_isiZ isi_ok T.n_isinstance bo_isinstance (pl_cons (pr_var 0) (pl_cons (pr_tup (pl_cons (pr_ty T.n_tuple bo_tuple) (pl_cons (pr_ty T.n_list bo_list) pl_nil)) (consL_len (consL_len nilL_len))) pl_nil))))) (pq_or1 (pq_not (pq_chain op_le le_ok op_le le_ok pr_int (pr_blt call_len_seq len_ok T.n_len bo_len (pl_cons (pr_var 0) pl_nil)) (pr_gint T.i_MOST_PIECES) )))).pt (qss_one qs_no) qss_nil)
    (qss_one (qs_for (ws := [1, 2]) PassesOwn.never rfl (pi_enmZ T.n_enumerate (pl_cons (pr_var 0) pl_nil)) (pg_tupZ rfl (pgs_consZ (pg_nm 1 sc_check_pieces.nd) (pgs_consZ (pg_nm 2 sc_check_pieces.nd) pgs_nilZ))) (qss_one (qs_if (pq_not (pq_val (pr_callC (c_is_piece T) (hr.mono (by decide)) (pl_cons (pr_var 2) pl_nil) (consL_len nilL_len)))) (qss_one qs_no) qss_nil)))))
theorem c_Lines (T : Txt K mg cl) : CalI P w K mg base (cl "Lines") "Lines" 5 ["self", "pieces", "room"] (spI K cl "Lines" 3 m_Lines) := by
  refine cal_I 4 (N := N_Lines) T.mk_Lines sc_Lines (by decide) (fun _ _ _ _ _ _ us hl => match us, hl with | [_, _, _], _ => rfl) (fun f cdv A outer s H E hr => ?_)
  have hu := hu_room hr
  exact (zs_cons (z_plain (qs_expr (pr_callC (c_check_pieces T) (hr.mono (by decide)) (pl_cons (pr_var 1) pl_nil) (consL_len nilL_len))))
    (zs_cons (z_plain (qs_if (pq_or (pq_not (pq_val (pr_callC (c_is_part T) (hr.mono (by decide)) (pl_cons (pr_var 2) pl_nil) (consL_len nilL_len)))) (pq_or1 (pq_cmp (op_eqZ hu) eq_ok (pr_ix ix_seqZ ix_ok (pr_var 2) pr_int (fun _ _ => rfl)) pr_int (nomark _)))).pt (qss_one qs_no) qss_nil))
    (zs_cons (z_plain (qs_set 3 sc_Lines.nd (pr_ix ix_seqZ ix_ok (pr_var 2) pr_int (fun _ _ => rfl))))
    (zs_cons (z_plain (qs_for (ws := [4]) PassesOwn.never rfl (pi_seqZ (pr_var 1)) (pg_nm 4 sc_Lines.nd) (qss_one (qs_for (ws := [5]) PassesOwn.never rfl (pi_seqZ (pr_var 4)) (pg_nm 5 sc_Lines.nd) (qss_one (qs_set 3 sc_Lines.nd (pr_bfun cr_lcm lcm_ok T.b_lcm (pl_cons (pr_var 3) (pl_cons (pr_ix ix_seqZ ix_ok (pr_var 5) pr_int (fun _ _ => rfl)) pl_nil)))))))))
    (zs_cons (z_set "Lines" T.cls_Lines T.na_Lines_many (pv 0) (pr_blt call_len_seq len_ok T.n_len bo_len (pl_cons (pr_var 1) pl_nil)))
    (zs_cons (z_set "Lines" T.cls_Lines T.na_Lines_room (pv 0) (pr_op op_mulZ mul_ok (pr_ix ix_seqZ ix_ok (pr_var 2) pr_int (fun _ _ => rfl)) (pr_op op_divB div_ok (pr_var 3) (pr_ix ix_seqZ ix_ok (pr_var 2) pr_int (fun _ _ => rfl)))))
    (zs_cons (z_lnk "Lines" 10 (fun x hx h => by cases hx; rcases h with h | h | h <;> exact absurd (gh_Lines__sums.symm.trans h) (by simp)) T.cls_Lines T.na_Lines__sums (pv 0) (pr_lst (pl_cons (pr_tup (pl_cons pr_int (pl_cons pr_int (pl_cons pr_int pl_nil))) (consL_len (consL_len (consL_len nilL_len)))) pl_nil) (consL_len nilL_len)))
    (zs_cons (z_plain (qs_for (ws := [4]) PassesOwn.never rfl (pi_seqZ (pr_var 1)) (pg_nm 4 sc_Lines.nd) (qss_cons (qs_asg (ws := [6, 7, 8]) (pr_lc (own := [("part", 5)]) rfl sc_Lines.nd (pi_seqZ (pr_var 4)) (blkOk_by (by first | (show blkC N_Lines (defScope st_Lines) _ _ = true; decide +kernel) | with_unfolding_all rfl)) (fun _ _ _ _ _ => (pg_nm 5 sc_Lines.nd)) (fun _ _ _ _ _ => pts_nilZ) (fun _ _ _ _ _ => (pr_op op_mulZ mul_ok (pr_ix ix_seqZ ix_ok (pr_var 5) pr_int (fun _ _ => rfl)) (pr_op op_divB div_ok (pr_var 3) (pr_ix ix_seqZ ix_ok (pr_var 5) pr_int (fun _ _ => rfl)))))) (pg_tupZ rfl (pgs_consZ (pg_nm 6 sc_Lines.nd) (pgs_consZ (pg_nm 7 sc_Lines.nd) (pgs_consZ (pg_nm 8 sc_Lines.nd) pgs_nilZ)))))
    (qss_cons (qs_set 9 sc_Lines.nd (pr_ix ix_seqZ ix_ok (pr_self "Lines" T.cls_Lines T.na_Lines__sums (pv 0)) (pr_neg pr_int) (fun _ _ => rfl)))
    (qss_one (qs_selfApp T.cls_Lines T.na_Lines__sums (ps_expr (pe_bm PySem.F.plainAttrs_list PySem.F.slot_list_append PySem.F.type_list_append mt_append (pe_fld (pv 0) rfl) (pa_cons (pr_tup (pl_cons (pr_op op_addZ add_ok (pr_ix ix_seqZ ix_ok (pr_var 9) pr_int (fun _ _ => rfl)) (pr_var 6)) (pl_cons (pr_op op_addZ add_ok (pr_ix ix_seqZ ix_ok (pr_var 9) pr_int (fun _ _ => rfl)) (pr_var 7)) (pl_cons (pr_op op_addZ add_ok (pr_ix ix_seqZ ix_ok (pr_var 9) pr_int (fun _ _ => rfl)) (pr_var 8)) pl_nil))) (consL_len (consL_len (consL_len nilL_len)))) pa_nil)))))))))
    zs_nil))))))))
theorem cm_Lines_badness (T : Txt K mg cl) : CalM P w K mg base (cl "Lines") "badness" 1 ["self", "first", "stop"] (spP K cl 3 m_Lines_badness) := by
  refine calm_P 0 (N := N_Lines_badness) T.mt_Lines_badness sc_Lines_badness (by decide) (fun _ _ _ _ _ _ us hl => match us, hl with | [_, _, _], _ => rfl) (fun f cdv A outer s H E hr => ?_)
  have hu := hu_room hr
  exact (qss_cons (qs_asg (ws := [3, 4, 5]) (pr_lc (own := [("k", 6)]) rfl sc_Lines_badness.nd (pi_rng1 T.n_range (pl_cons pr_int pl_nil)) (blkOk_by (by first | (show blkC N_Lines_badness (defScope st_Lines_badness) _ _ = true; decide +kernel) | with_unfolding_all rfl)) (fun _ _ _ _ _ => (pg_nm 6 sc_Lines_badness.nd)) (fun _ _ _ _ _ => pts_nilZ) (fun _ _ _ _ _ => (pr_op op_sub sub_ok (pr_ix ix_seqZ ix_ok (pr_ix ix_seqZ ix_ok (pr_fld "Lines" T.cls_Lines T.na_Lines__sums (pr_var 0)) (pr_var 2) (fun _ _ => rfl)) (pr_var 6) (fun _ _ => rfl)) (pr_ix ix_seqZ ix_ok (pr_ix ix_seqZ ix_ok (pr_fld "Lines" T.cls_Lines T.na_Lines__sums (pr_var 0)) (pr_var 1) (fun _ _ => rfl)) (pr_var 6) (fun _ _ => rfl))))) (pg_tupZ rfl (pgs_consZ (pg_nm 3 sc_Lines_badness.nd) (pgs_consZ (pg_nm 4 sc_Lines_badness.nd) (pgs_consZ (pg_nm 5 sc_Lines_badness.nd) pgs_nilZ)))))
    (qss_cons (qs_set 7 sc_Lines_badness.nd (pr_op op_sub sub_ok (pr_fld "Lines" T.cls_Lines T.na_Lines_room (pr_var 0)) (pr_var 3)))
    (qss_cons (qs_if (pq_or (pq_cmp (op_eqZ hu) eq_ok (pr_var 7) pr_int (nomark _)) (pq_or1 (pq_and (pq_cmp op_gt gt_ok (pr_var 7) pr_int (nomark _)) (pq_and1 (pq_cmp (op_eqZ hu) eq_ok (pr_var 2) (pr_fld "Lines" T.cls_Lines T.na_Lines_many (pr_var 0)) (nomark _)))).pt)).pt (qss_one (qs_ret pr_int)) qss_nil)
    (qss_cons (qs_if (pq_cmp op_gt gt_ok (pr_var 7) pr_int (nomark _)) (qss_one (qs_ret (pr_if (pq_cmp op_gt gt_ok (pr_var 4) pr_int (nomark _)) (pr_op op_divB div_ok (pr_op op_mulZ mul_ok (pr_op op_mulZ mul_ok (pr_gint T.i_SCALE) (pr_var 7)) (pr_var 7)) (pr_op op_mulZ mul_ok (pr_var 4) (pr_var 4))) pr_non))) qss_nil)
    (qss_one (qs_ret (pr_if (pq_cmp op_ge ge_ok (pr_op op_addZ add_ok (pr_var 5) (pr_var 7)) pr_int (nomark _)) (pr_op op_divB div_ok (pr_op op_mulZ mul_ok (pr_op op_mulZ mul_ok (pr_gint T.i_SCALE) (pr_var 7)) (pr_var 7)) (pr_op op_mulZ mul_ok (pr_var 5) (pr_var 5))) pr_non)))))))
theorem cm_Lines_from_piece (T : Txt K mg cl) : CalM P w K mg base (cl "Lines") "from_piece" 2 ["self", "first"] (spP K cl 2 m_Lines_from_piece) := by
  refine calm_P 1 (N := N_Lines_from_piece) T.mt_Lines_from_piece sc_Lines_from_piece (by decide) (fun _ _ _ _ _ _ us hl => match us, hl with | [_, _], _ => rfl) (fun f cdv A outer s H E hr => ?_)
  have hu := hu_room hr
  exact (qss_cons (qs_set 2 sc_Lines_from_piece.nd (pr_lst pl_nil nilL_len))
    (qss_cons (qs_set 3 sc_Lines_from_piece.nd (pr_ix ix_seqZ ix_ok (pr_fld "Lines" T.cls_Lines T.na_Lines__sums (pr_var 0)) (pr_var 1) (fun _ _ => rfl)))
    (qss_cons (qs_for (ws := [4]) PassesOwn.never rfl (pi_rng2 T.n_range (pl_cons (pr_op op_addZ add_ok (pr_var 1) pr_int) (pl_cons (pr_op op_addZ add_ok (pr_fld "Lines" T.cls_Lines T.na_Lines_many (pr_var 0)) pr_int) pl_nil))) (pg_nm 4 sc_Lines_from_piece.nd) (qss_cons (qs_set 5 sc_Lines_from_piece.nd (pr_ix ix_seqZ ix_ok (pr_fld "Lines" T.cls_Lines T.na_Lines__sums (pr_var 0)) (pr_var 4) (fun _ _ => rfl)))
    (qss_cons (qs_if (pq_cmp op_gt gt_ok (pr_op op_sub sub_ok (pr_op op_sub sub_ok (pr_ix ix_seqZ ix_ok (pr_var 5) pr_int (fun _ _ => rfl)) (pr_ix ix_seqZ ix_ok (pr_var 3) pr_int (fun _ _ => rfl))) (pr_op op_sub sub_ok (pr_ix ix_seqZ ix_ok (pr_var 5) pr_int (fun _ _ => rfl)) (pr_ix ix_seqZ ix_ok (pr_var 3) pr_int (fun _ _ => rfl)))) (pr_fld "Lines" T.cls_Lines T.na_Lines_room (pr_var 0)) (nomark _)) (qss_one qs_break) qss_nil)
    (qss_cons (qs_set 6 sc_Lines_from_piece.nd (pr_methC (cm_Lines_badness T) T.cls_Lines (hr.mono (by decide)) (pr_var 0) (pl_cons (pr_var 1) (pl_cons (pr_var 4) pl_nil)) (fun a b c h => congrArg (· + 1) ((consL_len (consL_len nilL_len)) a b c h))))
    (qss_one (qs_if (pq_notN (pr_var 6)) (qss_one (qs_app (ps_expr (pe_bm PySem.F.plainAttrs_list PySem.F.slot_list_append PySem.F.type_list_append mt_append (pv 2) (pa_cons (pr_tup (pl_cons (pr_var 4) (pl_cons (pr_var 6) pl_nil)) (consL_len (consL_len nilL_len))) pa_nil))))) qss_nil))))))
    (qss_one (qs_ret (pr_var 2))))))
theorem c_is_whole (T : Txt K mg cl) : Cal P w K mg base "is_whole" 1 ["value"] (spP K cl 1 m_is_whole) := by
  refine cal_P 0 (N := N_is_whole) T.f_is_whole sc_is_whole (by decide) (fun _ _ _ _ _ _ us hl => match us, hl with | [_], _ => rfl) (fun f cdv A outer s H E hr => ?_)
  have hu := hu_room hr
  exact (qss_one (qs_ret (pr_and (pr_blt call_isiZ isi_ok T.n_isinstance bo_isinstance (pl_cons (pr_var 0) (pl_cons (pr_ty T.n_int bo_int) pl_nil))) (pr_one (pr_not (pr_blt call_isiZ isi_ok T.n_isinstance bo_isinstance (pl_cons (pr_var 0) (pl_cons (pr_ty T.n_bool bo_bool) pl_nil))))))))
theorem c_is_number (T : Txt K mg cl) : Cal P w K mg base "is_number" 2 ["value", "many"] (spP K cl 2 m_is_number) := by
  refine cal_P 1 (N := N_is_number) T.f_is_number sc_is_number (by decide) (fun _ _ _ _ _ _ us hl => match us, hl with | [_, _], _ => rfl) (fun f cdv A outer s H E hr => ?_)
  have hu := hu_room hr
  exact (qss_one (qs_ret (pr_and (pr_callC (c_is_whole T) (hr.mono (by decide)) (pl_cons (pr_var 0) pl_nil) (consL_len nilL_len)) (pr_one (pr_chain op_le le_ok (op_lt3 hu) lt3_ok pr_int (pr_var 0) (pr_var 1) )))))
theorem c_Pages (T : Txt K mg cl) : CalI P w K mg base (cl "Pages") "Pages" 7 ["self", "pieces", "room", "turns", "least", "most"] (spI K cl "Pages" 6 m_Pages) := by
  refine cal_I 6 (N := N_Pages) T.mk_Pages sc_Pages (by decide) (fun _ _ _ _ _ _ us hl => match us, hl with | [_, _, _, _, _, _], _ => rfl) (fun f cdv A outer s H E hr => ?_)
  have hu := hu_room hr
  exact (zs_cons (z_set "Pages" T.cls_Pages T.na_Pages_lines (pv 0) (pr_makeC (c_Lines T) (hr.mono (by decide)) (pl_cons (pr_var 1) (pl_cons (pr_var 2) pl_nil)) (fun a b c h => congrArg (· + 1) ((consL_len (consL_len nilL_len)) a b c h))))
    (zs_cons (z_set "Pages" T.cls_Pages T.na_Pages_many (pv 0) (pr_fld "Lines" T.cls_Lines T.na_Lines_many (pr_self "Pages" T.cls_Pages T.na_Pages_lines (pv 0))))
    (zs_cons (z_plain (qs_if (pq_or (pq_not (pq_val (pr_blt call_isiZ isi_ok T.n_isinstance bo_isinstance (pl_cons (pr_var 3) (pl_cons (pr_tup (pl_cons (pr_ty T.n_tuple bo_tuple) (pl_cons (pr_ty T.n_list bo_list) pl_nil)) (consL_len (consL_len nilL_len))) pl_nil))))) (pq_or1 (pq_cmp (op_neZ hu) ne_ok (pr_blt call_len_seq len_ok T.n_len bo_len (pl_cons (pr_var 3) pl_nil)) (pr_self "Pages" T.cls_Pages T.na_Pages_many (pv 0)) (nomark _)))).pt (qss_one qs_no) qss_nil))
    (zs_cons (z_plain (qs_if (pq_not (pq_val (pr_blt (cr_all rfl) all_ok T.n_all bo_all (pl_cons (pr_lc (own := [("turn", 6)]) rfl sc_Pages.nd (pi_seqZ (pr_var 3)) (blkOk_by (by first | (show blkC N_Pages (defScope st_Pages) _ _ = true; decide +kernel) | with_unfolding_all rfl)) (fun _ _ _ _ _ => (pg_nm 6 sc_Pages.nd)) (fun _ _ _ _ _ => pts_nilZ) (fun _ _ _ _ _ => (pr_or (pr_isN (pr_var 6)) (pr_one (pr_callC (c_is_number T) (hr.mono (by decide)) (pl_cons (pr_var 6) (pl_cons (pr_op op_addZ add_ok (pr_gint T.i_MOST_TURN) pr_int) pl_nil)) (consL_len (consL_len nilL_len))))))) pl_nil)))) (qss_one qs_no) qss_nil))
    (zs_cons (z_plain (qs_if (pq_or (pq_not (pq_val (pr_callC (c_is_whole T) (hr.mono (by decide)) (pl_cons (pr_var 4) pl_nil) (consL_len nilL_len)))) (pq_or (pq_not (pq_val (pr_callC (c_is_whole T) (hr.mono (by decide)) (pl_cons (pr_var 5) pl_nil) (consL_len nilL_len)))) (pq_or1 (pq_not (pq_chain3 op_le le_ok op_le le_ok op_le le_ok pr_int (pr_var 4) (pr_var 5) (pr_gint T.i_MOST_LINES)))))).pt (qss_one qs_no) qss_nil))
    (zs_cons (z_set "Pages" T.cls_Pages T.na_Pages_turns (pv 0) (pr_var 3))
    (zs_cons (z_set "Pages" T.cls_Pages T.na_Pages_least (pv 0) (pr_var 4))
    (zs_cons (z_set "Pages" T.cls_Pages T.na_Pages_most (pv 0) (pr_var 5))
    (zs_cons (z_set "Pages" T.cls_Pages T.na_Pages__from (pv 0) (pr_lc (own := [("first", 7)]) rfl sc_Pages.nd (pi_rng1 T.n_range (pl_cons (pr_self "Pages" T.cls_Pages T.na_Pages_many (pv 0)) pl_nil)) (blkOk_by (by first | (show blkC N_Pages (defScope st_Pages) _ _ = true; decide +kernel) | with_unfolding_all rfl)) (fun _ _ _ _ _ => (pg_nm 7 sc_Pages.nd)) (fun _ _ _ _ _ => pts_nilZ) (fun _ _ _ _ _ => (pr_methC (cm_Lines_from_piece T) T.cls_Lines (hr.mono (by decide)) (pr_self "Pages" T.cls_Pages T.na_Pages_lines (pv 0)) (pl_cons (pr_var 7) pl_nil) (fun a b c h => congrArg (· + 1) ((consL_len nilL_len) a b c h))))))
    zs_nil)))))))))
theorem c_best_pages (T : Txt K mg cl) : Cal P w K mg base "best_pages" 9 ["pieces", "room", "turns", "least", "most"] (spP K cl 5 m_best_pages) := by
  refine cal_P 8 (N := N_best_pages) T.f_best_pages sc_best_pages (by decide) (fun _ _ _ _ _ _ us hl => match us, hl with | [_, _, _, _, _], _ => rfl) (fun f cdv A outer s H E hr => ?_)
  have hu := hu_room hr
  exact (qss_cons (qs_set 5 sc_best_pages.nd (pr_callC (c_best_behind T) (hr.mono (by decide)) (pl_cons (pr_makeC (c_Pages T) (hr.mono (by decide)) (pl_cons (pr_var 0) (pl_cons (pr_var 1) (pl_cons (pr_var 2) (pl_cons (pr_var 3) (pl_cons (pr_var 4) pl_nil))))) (fun a b c h => congrArg (· + 1) ((consL_len (consL_len (consL_len (consL_len (consL_len nilL_len))))) a b c h))) pl_nil) (consL_len nilL_len)))
    (qss_cons (qs_set 6 sc_best_pages.nd (pr_tup (pl_cons pr_int (pl_cons pr_int pl_nil)) (consL_len (consL_len nilL_len))))
    (qss_cons (qs_if (pq_dni hu (pr_var 6) (pr_var 5)) (qss_one (qs_ret pr_non)) qss_nil)
    (qss_cons (qs_set 7 sc_best_pages.nd (pr_ix ix_seqZ ix_ok (pr_ix ix_seqZ ix_ok (pr_dg hu (pr_var 5) (pr_var 6) (fun _ _ => rfl)) pr_int (fun _ _ => rfl)) pr_int (fun _ _ => rfl)))
    (qss_cons (qs_set 8 sc_best_pages.nd (pr_lst pl_nil nilL_len))
    (qss_cons (qs_set 9 sc_best_pages.nd (pr_lst pl_nil nilL_len))
    (qss_cons (qs_while 1000 PassesOwn.never (pq_notN (pr_ix ix_seqZ ix_ok (pr_dg hu (pr_var 5) (pr_var 6) (fun _ _ => rfl)) pr_int (fun _ _ => rfl))) (qss_cons (qs_set 10 sc_best_pages.nd (pr_ix ix_seqZ ix_ok (pr_dg hu (pr_var 5) (pr_var 6) (fun _ _ => rfl)) pr_int (fun _ _ => rfl)))
    (qss_cons (qs_if (pq_cmp (op_eqZ hu) eq_ok (pr_ix ix_seqZ ix_ok (pr_var 10) pr_int (fun _ _ => rfl)) pr_int (nomark _)) (qss_cons (qs_app (ps_expr (pe_bm PySem.F.plainAttrs_list PySem.F.slot_list_append PySem.F.type_list_append mt_append (pv 8) (pa_cons (pr_tyc call_tuple_of tuple_ok T.n_tuple bo_tuple (pl_cons (pr_var 9) pl_nil)) pa_nil))))
    (qss_one (qs_set 9 sc_best_pages.nd (pr_lst pl_nil nilL_len)))) (qss_one (qs_app (ps_expr (pe_bm PySem.F.plainAttrs_list PySem.F.slot_list_append PySem.F.type_list_append mt_append (pv 9) (pa_cons (pr_ix ix_seqZ ix_ok (pr_var 10) pr_int (fun _ _ => rfl)) pa_nil))))))
    (qss_one (qs_set 6 sc_best_pages.nd (pr_var 10))))))
    (qss_one (qs_ret (pr_tup (pl_cons (pr_var 7) (pl_cons (pr_tyc call_tuple_of tuple_ok T.n_tuple bo_tuple (pl_cons (pr_op op_addZ add_ok (pr_var 8) (pr_lst (pl_cons (pr_tyc call_tuple_of tuple_ok T.n_tuple bo_tuple (pl_cons (pr_var 9) pl_nil)) pl_nil) (consL_len nilL_len))) pl_nil)) pl_nil)) (consL_len (consL_len nilL_len))))))))))))
theorem c__law_divisor (T : Txt K mg cl) : Cal P w K mg base "_law_divisor" 2 ["one", "other"] (spP K cl 2 m__law_divisor) := by
  refine cal_P 1 (N := N__law_divisor) T.f__law_divisor sc__law_divisor (by decide) (fun _ _ _ _ _ _ us hl => match us, hl with | [_, _], _ => rfl) (fun f cdv A outer s H E hr => ?_)
  have hu := hu_room hr
  exact (qss_one (qs_ret (pr_if (pq_cmp op_gt gt_ok (pr_var 0) pr_int (nomark _)) (pr_op op_divB div_ok (pr_var 0) (pr_ix ix_seqZ ix_ok (pr_callC (c__law_lowest T) (hr.mono (by decide)) (pl_cons (pr_var 0) (pl_cons (pr_var 1) pl_nil)) (consL_len (consL_len nilL_len))) pr_int (fun _ _ => rfl))) (pr_var 1))))
theorem c__law_scaled (T : Txt K mg cl) : Cal P w K mg base "_law_scaled" 3 ["pieces", "room"] (spP K cl 2 m__law_scaled) := by
  refine cal_P 2 (N := N__law_scaled) T.f__law_scaled sc__law_scaled (by decide) (fun _ _ _ _ _ _ us hl => match us, hl with | [_, _], _ => rfl) (fun f cdv A outer s H E hr => ?_)
  have hu := hu_room hr
  exact (qss_cons (qs_set 2 sc__law_scaled.nd (pr_ix ix_seqZ ix_ok (pr_var 1) pr_int (fun _ _ => rfl)))
    (qss_cons (qs_for (ws := [3]) PassesOwn.never rfl (pi_seqZ (pr_var 0)) (pg_nm 3 sc__law_scaled.nd) (qss_one (qs_for (ws := [4]) PassesOwn.never rfl (pi_seqZ (pr_var 3)) (pg_nm 4 sc__law_scaled.nd) (qss_one (qs_set 2 sc__law_scaled.nd (pr_op op_mulZ mul_ok (pr_var 2) (pr_op op_divB div_ok (pr_ix ix_seqZ ix_ok (pr_var 4) pr_int (fun _ _ => rfl)) (pr_callC (c__law_divisor T) (hr.mono (by decide)) (pl_cons (pr_ix ix_seqZ ix_ok (pr_var 4) pr_int (fun _ _ => rfl)) (pl_cons (pr_var 2) pl_nil)) (consL_len (consL_len nilL_len))))))))))
    (qss_cons (qs_set 5 sc__law_scaled.nd (pr_lst (pl_cons (pr_tup (pl_cons pr_int (pl_cons pr_int (pl_cons pr_int pl_nil))) (consL_len (consL_len (consL_len nilL_len)))) pl_nil) (consL_len nilL_len)))
    (qss_cons (qs_for (ws := [3]) PassesOwn.never rfl (pi_seqZ (pr_var 0)) (pg_nm 3 sc__law_scaled.nd) (qss_cons (qs_setLc 6 (own := [("part", 4)]) rfl sc__law_scaled.nd (pi_seqZ (pr_var 3)) (blkOk_by (by first | (show blkC N__law_scaled (defScope st__law_scaled) _ _ = true; decide +kernel) | with_unfolding_all rfl)) (fun _ _ _ _ _ => (pg_nm 4 sc__law_scaled.nd)) (fun _ _ _ _ _ => pts_nilZ) (fun _ _ _ _ _ => (pr_op op_mulZ mul_ok (pr_ix ix_seqZ ix_ok (pr_var 4) pr_int (fun _ _ => rfl)) (pr_op op_divB div_ok (pr_var 2) (pr_ix ix_seqZ ix_ok (pr_var 4) pr_int (fun _ _ => rfl))))) (by rfl))
    (qss_one (qs_app (ps_expr (pe_bm PySem.F.plainAttrs_list PySem.F.slot_list_append PySem.F.type_list_append mt_append (pv 5) (pa_cons (pr_tup (pl_cons (pr_op op_addZ add_ok (pr_ix ix_seqZ ix_ok (pr_ix ix_seqZ ix_ok (pr_var 5) (pr_neg pr_int) (fun _ _ => rfl)) pr_int (fun _ _ => rfl)) (pr_ix ix_seqZ ix_ok (pr_var 6) pr_int (fun _ _ => rfl))) (pl_cons (pr_op op_addZ add_ok (pr_ix ix_seqZ ix_ok (pr_ix ix_seqZ ix_ok (pr_var 5) (pr_neg pr_int) (fun _ _ => rfl)) pr_int (fun _ _ => rfl)) (pr_ix ix_seqZ ix_ok (pr_var 6) pr_int (fun _ _ => rfl))) (pl_cons (pr_op op_addZ add_ok (pr_ix ix_seqZ ix_ok (pr_ix ix_seqZ ix_ok (pr_var 5) (pr_neg pr_int) (fun _ _ => rfl)) pr_int (fun _ _ => rfl)) (pr_ix ix_seqZ ix_ok (pr_var 6) pr_int (fun _ _ => rfl))) pl_nil))) (consL_len (consL_len (consL_len nilL_len)))) pa_nil)))))))
    (qss_one (qs_ret (pr_tup (pl_cons (pr_var 5) (pl_cons (pr_op op_mulZ mul_ok (pr_ix ix_seqZ ix_ok (pr_var 1) pr_int (fun _ _ => rfl)) (pr_op op_divB div_ok (pr_var 2) (pr_ix ix_seqZ ix_ok (pr_var 1) pr_int (fun _ _ => rfl)))) pl_nil)) (consL_len (consL_len nilL_len)))))))))
theorem c__law_is_integer (T : Txt K mg cl) : Cal P w K mg base "_law_is_integer" 1 ["actual"] (spP K cl 1 m__law_is_integer) := by
  refine cal_P 0 (N := N__law_is_integer) T.f__law_is_integer sc__law_is_integer (by decide) (fun _ _ _ _ _ _ us hl => match us, hl with | [_], _ => rfl) (fun f cdv A outer s H E hr => ?_)
  have hu := hu_room hr
  exact (qss_one (qs_ret (pr_and (pr_blt call_isiZ isi_ok T.n_isinstance bo_isinstance (pl_cons (pr_var 0) (pl_cons (pr_ty T.n_int bo_int) pl_nil))) (pr_one (pr_not (pr_blt call_isiZ isi_ok T.n_isinstance bo_isinstance (pl_cons (pr_var 0) (pl_cons (pr_ty T.n_bool bo_bool) pl_nil))))))))
theorem cr__law_same (T : Txt K mg cl) {mr : List Z.D → Option Rt} (k : Nat) (hk : 1 ≤ k) (Cr : Cal P w K mg base "_law_same" k ["actual", "due"] (spP K cl 2 mr)) : Cal P w K mg base "_law_same" (k + 1) ["actual", "due"] (spP K cl 2 (runP N__law_same (b__law_same mr))) := by
  refine cal_P k (N := N__law_same) T.f__law_same sc__law_same (by decide) (fun _ _ _ _ _ _ us hl => match us, hl with | [_, _], _ => rfl) (fun f cdv A outer s H E hr => ?_)
  have hu := hu_room hr
  exact (qss_cons (qs_if (pq_val (pr_blt call_isiZ isi_ok T.n_isinstance bo_isinstance (pl_cons (pr_var 1) (pl_cons (pr_ty T.n_tuple bo_tuple) pl_nil)))) (qss_cons (qs_if (pq_or (pq_not (pq_val (pr_blt call_isiZ isi_ok T.n_isinstance bo_isinstance (pl_cons (pr_var 0) (pl_cons (pr_ty T.n_tuple bo_tuple) pl_nil))))) (pq_or1 (pq_cmp (op_neZ hu) ne_ok (pr_blt call_len_seq len_ok T.n_len bo_len (pl_cons (pr_var 0) pl_nil)) (pr_blt call_len_seq len_ok T.n_len bo_len (pl_cons (pr_var 1) pl_nil)) (nomark _)))).pt (qss_one (qs_ret pr_bl)) qss_nil)
    (qss_one (qs_ret (pr_blt (cr_all rfl) all_ok T.n_all bo_all (pl_cons (pr_lc (own := [("k", 2)]) rfl sc__law_same.nd (pi_rng1 T.n_range (pl_cons (pr_blt call_len_seq len_ok T.n_len bo_len (pl_cons (pr_var 1) pl_nil)) pl_nil)) (blkOk_by (by first | (show blkC N__law_same (defScope st__law_same) _ _ = true; decide +kernel) | with_unfolding_all rfl)) (fun _ _ _ _ _ => (pg_nm 2 sc__law_same.nd)) (fun _ _ _ _ _ => pts_nilZ) (fun _ _ _ _ _ => (pr_callC Cr (hr.mono (by first | exact Nat.le_refl _ | omega)) (pl_cons (pr_ix ix_seqZ ix_ok (pr_var 0) (pr_var 2) (fun _ _ => rfl)) (pl_cons (pr_ix ix_seqZ ix_ok (pr_var 1) (pr_var 2) (fun _ _ => rfl)) pl_nil)) (consL_len (consL_len nilL_len))))) pl_nil))))) qss_nil)
    (qss_cons (qs_if (pq_val (pr_blt call_isiZ isi_ok T.n_isinstance bo_isinstance (pl_cons (pr_var 1) (pl_cons (pr_ty T.n_list bo_list) pl_nil)))) (qss_cons (qs_if (pq_or (pq_not (pq_val (pr_blt call_isiZ isi_ok T.n_isinstance bo_isinstance (pl_cons (pr_var 0) (pl_cons (pr_ty T.n_list bo_list) pl_nil))))) (pq_or1 (pq_cmp (op_neZ hu) ne_ok (pr_blt call_len_seq len_ok T.n_len bo_len (pl_cons (pr_var 0) pl_nil)) (pr_blt call_len_seq len_ok T.n_len bo_len (pl_cons (pr_var 1) pl_nil)) (nomark _)))).pt (qss_one (qs_ret pr_bl)) qss_nil)
    (qss_one (qs_ret (pr_blt (cr_all rfl) all_ok T.n_all bo_all (pl_cons (pr_lc (own := [("k", 2)]) rfl sc__law_same.nd (pi_rng1 T.n_range (pl_cons (pr_blt call_len_seq len_ok T.n_len bo_len (pl_cons (pr_var 1) pl_nil)) pl_nil)) (blkOk_by (by first | (show blkC N__law_same (defScope st__law_same) _ _ = true; decide +kernel) | with_unfolding_all rfl)) (fun _ _ _ _ _ => (pg_nm 2 sc__law_same.nd)) (fun _ _ _ _ _ => pts_nilZ) (fun _ _ _ _ _ => (pr_callC Cr (hr.mono (by first | exact Nat.le_refl _ | omega)) (pl_cons (pr_ix ix_seqZ ix_ok (pr_var 0) (pr_var 2) (fun _ _ => rfl)) (pl_cons (pr_ix ix_seqZ ix_ok (pr_var 1) (pr_var 2) (fun _ _ => rfl)) pl_nil)) (consL_len (consL_len nilL_len))))) pl_nil))))) qss_nil)
    (qss_cons (qs_if (pq_isN (pr_var 1)) (qss_one (qs_ret (pr_isN (pr_var 0)))) qss_nil)
    (qss_cons (qs_if (pq_val (pr_blt call_isiZ isi_ok T.n_isinstance bo_isinstance (pl_cons (pr_var 1) (pl_cons (pr_ty T.n_bool bo_bool) pl_nil)))) (qss_one (qs_ret (pr_and (pr_blt call_isiZ isi_ok T.n_isinstance bo_isinstance (pl_cons (pr_var 0) (pl_cons (pr_ty T.n_bool bo_bool) pl_nil))) (pr_one (pr_cmp (op_eqZ hu) eq_ok (pr_var 0) (pr_var 1) (nomark _)))))) qss_nil)
    (qss_cons (qs_if (pq_val (pr_blt call_isiZ isi_ok T.n_isinstance bo_isinstance (pl_cons (pr_var 1) (pl_cons (pr_ty T.n_str bo_str) pl_nil)))) (qss_one (qs_ret (pr_and (pr_blt call_isiZ isi_ok T.n_isinstance bo_isinstance (pl_cons (pr_var 0) (pl_cons (pr_ty T.n_str bo_str) pl_nil))) (pr_one (pr_cmp (op_eqZ hu) eq_ok (pr_var 0) (pr_var 1) (nomark _)))))) qss_nil)
    (qss_one (qs_ret (pr_and (pr_callC (c__law_is_integer T) (hr.mono (by first | exact Nat.le_refl _ | omega)) (pl_cons (pr_var 0) pl_nil) (consL_len nilL_len)) (pr_one (pr_cmp (op_eqZ hu) eq_ok (pr_var 0) (pr_var 1) (nomark _)))))))))))
theorem c__law_same (T : Txt K mg cl) : ∀ n : Nat, Cal P w K mg base "_law_same" (1 + n) ["actual", "due"] (spP K cl 2 (m__law_same n))
  | 0 => (cal_0P T.f__law_same (fun _ _ _ _ _ _ us hl => match us, hl with | [_, _], _ => rfl)).mono (by decide)
  | n + 1 => cr__law_same T (1 + n) (by omega) (c__law_same T n)
theorem c_page_potentials (T : Txt K mg cl) : Cal P w K mg base "page_potentials" 9 ["pieces", "room", "turns", "least", "most"] (spP K cl 5 m_page_potentials) := by
  refine cal_P 8 (N := N_page_potentials) T.f_page_potentials sc_page_potentials (by decide) (fun _ _ _ _ _ _ us hl => match us, hl with | [_, _, _, _, _], _ => rfl) (fun f cdv A outer s H E hr => ?_)
  have hu := hu_room hr
  exact (qss_cons (qs_set 5 sc_page_potentials.nd (pr_makeC (c_Pages T) (hr.mono (by decide)) (pl_cons (pr_var 0) (pl_cons (pr_var 1) (pl_cons (pr_var 2) (pl_cons (pr_var 3) (pl_cons (pr_var 4) pl_nil))))) (fun a b c h => congrArg (· + 1) ((consL_len (consL_len (consL_len (consL_len (consL_len nilL_len))))) a b c h))))
    (qss_cons (qs_set 6 sc_page_potentials.nd (pr_disp hu (pr_tup (pl_cons pr_int (pl_cons pr_int pl_nil)) (consL_len (consL_len nilL_len))) pr_int))
    (qss_cons (qs_for (ws := [7]) PassesOwn.never rfl (pi_seqZ (pr_methC0 (cm_Pages_places T) T.cls_Pages (hr.mono (by decide)) (pr_var 5))) (pg_nm 7 sc_page_potentials.nd) (qss_one (qs_if (pq_din hu (pr_var 7) (pr_var 6)) (qss_one (qs_for (ws := [8, 9]) PassesOwn.never rfl (pi_seqZ (pr_methC (cm_Pages_following T) T.cls_Pages (hr.mono (by decide)) (pr_var 5) (pl_cons (pr_var 7) pl_nil) (fun a b c h => congrArg (· + 1) ((consL_len nilL_len) a b c h)))) (pg_tupZ rfl (pgs_consZ (pg_nm 8 sc_page_potentials.nd) (pgs_consZ (pg_nm 9 sc_page_potentials.nd) pgs_nilZ))) (qss_cons (qs_set 10 sc_page_potentials.nd (pr_op op_addZ add_ok (pr_dg hu (pr_var 6) (pr_var 7) (fun _ _ => rfl)) (pr_var 9)))
    (qss_one (qs_dput (ps_dput (hu1 hu) (pv 6) (pr_var 8) (pr_blt (call_minZ rfl) min_ok T.n_min bo_min (pl_cons (pr_var 10) (pl_cons (pr_get2 hu (pr_var 6) (pr_var 8) (pr_var 10) ⟨rfl, rfl, rfl, rfl⟩) pl_nil))) (by rfl))))))) qss_nil)))
    (qss_one (qs_ret (pr_tyc call_tuple_of tuple_ok T.n_tuple bo_tuple (pl_cons (pr_sortIt rfl hu T.n_sorted bo_sorted (pr_var 6)) pl_nil)))))))
theorem cr__law_listed (T : Txt K mg cl) {mr : List Z.D → Option Rt} (k : Nat) (hk : 0 ≤ k) (Cr : Cal P w K mg base "_law_listed" k ["thing"] (spP K cl 1 mr)) : Cal P w K mg base "_law_listed" (k + 1) ["thing"] (spP K cl 1 (runP N__law_listed (b__law_listed mr))) := by
  refine cal_P k (N := N__law_listed) T.f__law_listed sc__law_listed (by decide) (fun _ _ _ _ _ _ us hl => match us, hl with | [_], _ => rfl) (fun f cdv A outer s H E hr => ?_)
  have hu := hu_room hr
  exact (qss_cons (qs_if (pq_val (pr_blt call_isiZ isi_ok T.n_isinstance bo_isinstance (pl_cons (pr_var 0) (pl_cons (pr_ty T.n_tuple bo_tuple) pl_nil)))) (qss_one (qs_ret (pr_lc (own := [("part", 1)]) rfl sc__law_listed.nd (pi_seqZ (pr_var 0)) (blkOk_by (by first | (show blkC N__law_listed (defScope st__law_listed) _ _ = true; decide +kernel) | with_unfolding_all rfl)) (fun _ _ _ _ _ => (pg_nm 1 sc__law_listed.nd)) (fun _ _ _ _ _ => pts_nilZ) (fun _ _ _ _ _ => (pr_callC Cr (hr.mono (by first | exact Nat.le_refl _ | omega)) (pl_cons (pr_var 1) pl_nil) (consL_len nilL_len)))))) qss_nil)
    (qss_one (qs_ret (pr_var 0))))
theorem c__law_listed (T : Txt K mg cl) : ∀ n : Nat, Cal P w K mg base "_law_listed" (0 + n) ["thing"] (spP K cl 1 (m__law_listed n))
  | 0 => (cal_0P T.f__law_listed (fun _ _ _ _ _ _ us hl => match us, hl with | [_], _ => rfl)).mono (by decide)
  | n + 1 => cr__law_listed T (0 + n) (by omega) (c__law_listed T n)
theorem c__law_given (T : Txt K mg cl) : Cal P w K mg base "_law_given" 6 ["pool", "thing"] (spM K cl 2 m__law_given) := by
  refine cal_M 5 (N := N__law_given) T.f__law_given sc__law_given (by decide) (fun _ _ _ _ _ _ us hl => match us, hl with | [_, _], _ => rfl) (fun f cdv A outer s H E hr => ?_)
  have hu := hu_room hr
  exact (qss_one (qs_ret (pr_if (pq_cmp (op_eqZ hu) eq_ok (pr_callMC 0 (c__law_take T 2) (hr.mono (by decide)) (pl_cons (pr_var 0) (pl_cons pr_int pl_nil)) (consL_len (consL_len nilL_len))) pr_int (nomark _)) (pr_callC (c__law_listed T 5) (hr.mono (by decide)) (pl_cons (pr_var 1) pl_nil) (consL_len nilL_len)) (pr_var 1))))
theorem c__law_other (T : Txt K mg cl) : Cal P w K mg base "_law_other" 3 ["pool", "lines", "pages", "rows"] (spM K cl 4 m__law_other) := by
  refine cal_M 2 (N := N__law_other) T.f__law_other sc__law_other (by decide) (fun _ _ _ _ _ _ us hl => match us, hl with | [_, _, _, _], _ => rfl) (fun f cdv A outer s H E hr => ?_)
  have hu := hu_room hr
  exact (qss_cons (qs_set 4 sc__law_other.nd (pr_op op_addZ add_ok pr_int (pr_callMC 0 (c__law_take T 2) (hr.mono (by decide)) (pl_cons (pr_var 0) (pl_cons pr_int pl_nil)) (consL_len (consL_len nilL_len)))))
    (qss_cons (qs_setLc 5 (own := [("place", 6), ("spent", 7)]) rfl sc__law_other.nd (pi_seqZ (pr_var 3)) (blkOk_by (by first | (show blkC N__law_other (defScope st__law_other) _ _ = true; decide +kernel) | with_unfolding_all rfl)) (fun _ _ _ _ _ => (pg_tupZ rfl (pgs_consZ (pg_nm 6 sc__law_other.nd) (pgs_consZ (pg_nm 7 sc__law_other.nd) pgs_nilZ)))) (fun _ _ _ _ _ => pts_nilZ) (fun _ _ _ _ _ => (pr_tup (pl_cons (pr_var 6) (pl_cons (pr_op op_divB div_ok (pr_op op_mulZ mul_ok (pr_var 7) (pr_var 4)) pr_int) pl_nil)) (consL_len (consL_len nilL_len)))) (by rfl))
    (qss_cons (qs_set 8 sc__law_other.nd (pr_lst (pl_cons (pr_tup (pl_cons (pr_callMC 0 (c__law_take T 2) (hr.mono (by decide)) (pl_cons (pr_var 0) (pl_cons (pr_op op_addZ add_ok (pr_blt call_len_seq len_ok T.n_len bo_len (pl_cons (pr_var 1) pl_nil)) pr_int) pl_nil)) (consL_len (consL_len nilL_len))) (pl_cons (pr_callMC 0 (c__law_take T 2) (hr.mono (by decide)) (pl_cons (pr_var 0) (pl_cons (pr_op op_addZ add_ok (pr_ix ix_seqZ ix_ok (pr_var 2) pr_int (fun _ _ => rfl)) pr_int) pl_nil)) (consL_len (consL_len nilL_len))) pl_nil)) (consL_len (consL_len nilL_len))) pl_nil) (consL_len nilL_len)))
    (qss_cons (qs_set 9 sc__law_other.nd pr_dnew)
    (qss_cons (qs_for (ws := [6, 7]) PassesOwn.never rfl (pi_seqZ (pr_var 3)) (pg_tupZ rfl (pgs_consZ (pg_nm 6 sc__law_other.nd) (pgs_consZ (pg_nm 7 sc__law_other.nd) pgs_nilZ))) (qss_one (qs_dput (ps_dput (hu1 hu) (pv 9) (pr_var 6) pr_bl (by rfl)))))
    (qss_cons (qs_for (ws := [10]) PassesOwn.never rfl (pi_rng1 T.n_range (pl_cons pr_int pl_nil)) (pg_nm 10 sc__law_other.nd) (qss_cons (qs_if (pq_not (pq_val (pr_var 8))) (qss_one qs_break) qss_nil)
    (qss_cons (qs_set 6 sc__law_other.nd (pr_pop (pe_bm0 PySem.F.plainAttrs_list PySem.F.slot_list_pop PySem.F.type_list_pop mt_pop (pv 8))))
    (qss_one (qs_if (pq_dni hu (pr_var 6) (pr_var 9)) (qss_cons (qs_dput (ps_dput (hu1 hu) (pv 9) (pr_var 6) pr_bl (by rfl)))
    (qss_cons (qs_app (ps_expr (pe_bm PySem.F.plainAttrs_list PySem.F.slot_list_append PySem.F.type_list_append mt_append (pv 5) (pa_cons (pr_tup (pl_cons (pr_var 6) (pl_cons (pr_op op_pow pow_ok pr_int pr_int) pl_nil)) (consL_len (consL_len nilL_len))) pa_nil))))
    (qss_one (qs_set 8 sc__law_other.nd (pr_op op_addZ add_ok (pr_var 8) (pr_lc (own := [("one", 11)]) rfl sc__law_other.nd (pi_seqZ (pr_callC (c__law_steps T) (hr.mono (by decide)) (pl_cons (pr_var 1) (pl_cons (pr_var 2) (pl_cons (pr_var 6) pl_nil))) (consL_len (consL_len (consL_len nilL_len))))) (blkOk_by (by first | (show blkC N__law_other (defScope st__law_other) _ _ = true; decide +kernel) | with_unfolding_all rfl)) (fun _ _ _ _ _ => (pg_nm 11 sc__law_other.nd)) (fun _ _ _ _ _ => pts_nilZ) (fun _ _ _ _ _ => (pr_ix ix_seqZ ix_ok (pr_var 11) pr_int (fun _ _ => rfl))))))))) qss_nil)))))
    (qss_one (qs_ret (pr_var 5)))))))))
theorem c__law_spoilt (T : Txt K mg cl) : Cal P w K mg base "_law_spoilt" 4 ["pool", "rows"] (spM K cl 2 m__law_spoilt) := by
  refine cal_M 3 (N := N__law_spoilt) T.f__law_spoilt sc__law_spoilt (by decide) (fun _ _ _ _ _ _ us hl => match us, hl with | [_, _], _ => rfl) (fun f cdv A outer s H E hr => ?_)
  have hu := hu_room hr
  exact (qss_cons (qs_set 2 sc__law_spoilt.nd (pr_callMC 0 (c__law_take T 2) (hr.mono (by decide)) (pl_cons (pr_var 0) (pl_cons (pr_blt call_len_seq len_ok T.n_len bo_len (pl_cons (pr_var 1) pl_nil)) pl_nil)) (consL_len (consL_len nilL_len))))
    (qss_cons (qs_asg (ws := [3, 4]) (pr_ix ix_seqZ ix_ok (pr_var 1) (pr_var 2) (fun _ _ => rfl)) (pg_tupZ rfl (pgs_consZ (pg_nm 3 sc__law_spoilt.nd) (pgs_consZ (pg_nm 4 sc__law_spoilt.nd) pgs_nilZ))))
    (qss_cons (qs_set 5 sc__law_spoilt.nd (pr_lst (pl_cons (pr_tup (pl_cons (pr_var 3) (pl_cons (pr_op op_addZ add_ok (pr_var 4) (pr_callMC 0 (c__law_pick T) (hr.mono (by decide)) (pl_cons (pr_var 0) (pl_cons (pr_lst (pl_cons pr_int (pl_cons (pr_neg pr_int) (pl_cons pr_int (pl_cons (pr_neg (pr_var 4)) (pl_cons (pr_op op_sub sub_ok (pr_neg (pr_var 4)) pr_int) pl_nil))))) (consL_len (consL_len (consL_len (consL_len (consL_len nilL_len)))))) pl_nil)) (consL_len (consL_len nilL_len)))) pl_nil)) (consL_len (consL_len nilL_len))) pl_nil) (consL_len nilL_len)))
    (qss_cons (qs_if (pq_cmp (op_eqZ hu) eq_ok (pr_callMC 0 (c__law_take T 2) (hr.mono (by decide)) (pl_cons (pr_var 0) (pl_cons pr_int pl_nil)) (consL_len (consL_len nilL_len))) pr_int (nomark _)) (qss_one (qs_set 5 sc__law_spoilt.nd (pr_lst pl_nil nilL_len))) qss_nil)
    (qss_one (qs_ret (pr_op op_addZ add_ok (pr_op op_addZ add_ok (pr_sl (pr_var 1) po_noZ (po_soZ (pr_var 2))) (pr_var 5)) (pr_sl (pr_var 1) (po_soZ (pr_op op_addZ add_ok (pr_var 2) pr_int)) po_noZ))))))))
theorem c__law_order (T : Txt K mg cl) : Cal P w K mg base "_law_order" 3 ["pool", "many"] (spM K cl 2 m__law_order) := by
  refine cal_M 2 (N := N__law_order) T.f__law_order sc__law_order (by decide) (fun _ _ _ _ _ _ us hl => match us, hl with | [_, _], _ => rfl) (fun f cdv A outer s H E hr => ?_)
  have hu := hu_room hr
  exact (qss_cons (qs_set 2 sc__law_order.nd (pr_lrg (pe_listRg rfl (by rfl) T.n_list (prg_1 (by rfl) T.n_range (pr_var 1)))))
    (qss_cons (qs_set 3 sc__law_order.nd (pr_tup pl_nil nilL_len))
    (qss_cons (qs_for (ws := [4]) PassesOwn.never rfl (pi_rng1 T.n_range (pl_cons (pr_var 1) pl_nil)) (pg_nm 4 sc__law_order.nd) (qss_one (qs_set 3 sc__law_order.nd (pr_op op_addZ add_ok (pr_var 3) (pr_tup (pl_cons (pr_popAt (pe_bm PySem.F.plainAttrs_list PySem.F.slot_list_pop PySem.F.type_list_pop mt_popAt (pv 2) (pa_cons (pr_callMC 0 (c__law_take T 2) (hr.mono (by decide)) (pl_cons (pr_var 0) (pl_cons (pr_blt call_len_seq len_ok T.n_len bo_len (pl_cons (pr_var 2) pl_nil)) pl_nil)) (consL_len (consL_len nilL_len))) pa_nil))) pl_nil) (consL_len nilL_len))))))
    (qss_one (qs_ret (pr_var 3))))))
theorem c__law_mixed (T : Txt K mg cl) : Cal P w K mg base "_law_mixed" 4 ["pool", "rows"] (spM K cl 2 m__law_mixed) := by
  refine cal_M 3 (N := N__law_mixed) T.f__law_mixed sc__law_mixed (by decide) (fun _ _ _ _ _ _ us hl => match us, hl with | [_, _], _ => rfl) (fun f cdv A outer s H E hr => ?_)
  have hu := hu_room hr
  exact (qss_one (qs_ret (pr_tyc call_tupleP tupleP_ok T.n_tuple bo_tuple (pl_cons (pr_lc (own := [("k", 2)]) rfl sc__law_mixed.nd (pi_seqZ (pr_callMC 0 (c__law_order T) (hr.mono (by decide)) (pl_cons (pr_var 0) (pl_cons (pr_blt call_len_seq len_ok T.n_len bo_len (pl_cons (pr_var 1) pl_nil)) pl_nil)) (consL_len (consL_len nilL_len)))) (blkOk_by (by first | (show blkC N__law_mixed (defScope st__law_mixed) _ _ = true; decide +kernel) | with_unfolding_all rfl)) (fun _ _ _ _ _ => (pg_nm 2 sc__law_mixed.nd)) (fun _ _ _ _ _ => pts_nilZ) (fun _ _ _ _ _ => (pr_ix ix_seqZ ix_ok (pr_var 1) (pr_var 2) (fun _ _ => rfl)))) pl_nil))))
theorem c__law_shows (T : Txt K mg cl) : Cal P w K mg base "_law_shows" 2 ["lines", "pages", "rows", "total"] (spP K cl 4 m__law_shows) := by
  refine cal_P 1 (N := N__law_shows) T.f__law_shows sc__law_shows (by decide) (fun _ _ _ _ _ _ us hl => match us, hl with | [_, _, _, _], _ => rfl) (fun f cdv A outer s H E hr => ?_)
  have hu := hu_room hr
  exact (qss_cons (qs_set 4 sc__law_shows.nd pr_dnew)
    (qss_cons (qs_for (ws := [5, 6]) PassesOwn.never rfl (pi_seqZ (pr_var 2)) (pg_tupZ rfl (pgs_consZ (pg_nm 5 sc__law_shows.nd) (pgs_consZ (pg_nm 6 sc__law_shows.nd) pgs_nilZ))) (qss_cons (qs_dput (ps_dput (hu1 hu) (pv 4) (pr_var 5) (pr_var 6) (by rfl)))
    (qss_one (qs_if (pq_cmp (op_lt3 hu) lt3_ok (pr_var 6) pr_int (nomark _)) (qss_one (qs_ret pr_bl)) qss_nil))))
    (qss_cons (qs_if (pq_or (pq_dni hu (pr_tup (pl_cons pr_int (pl_cons pr_int pl_nil)) (consL_len (consL_len nilL_len))) (pr_var 4)) (pq_or1 (pq_cmp (op_neZ hu) ne_ok (pr_dg hu (pr_var 4) (pr_tup (pl_cons pr_int (pl_cons pr_int pl_nil)) (consL_len (consL_len nilL_len))) (fun _ _ => rfl)) pr_int (nomark _)))).pt (qss_one (qs_ret pr_bl)) qss_nil)
    (qss_cons (qs_for (ws := [5, 6]) PassesOwn.never rfl (pi_seqZ (pr_var 2)) (pg_tupZ rfl (pgs_consZ (pg_nm 5 sc__law_shows.nd) (pgs_consZ (pg_nm 6 sc__law_shows.nd) pgs_nilZ))) (qss_one (qs_for (ws := [7, 8]) PassesOwn.never rfl (pi_seqZ (pr_callC (c__law_steps T) (hr.mono (by decide)) (pl_cons (pr_var 0) (pl_cons (pr_var 1) (pl_cons (pr_var 5) pl_nil))) (consL_len (consL_len (consL_len nilL_len))))) (pg_tupZ rfl (pgs_consZ (pg_nm 7 sc__law_shows.nd) (pgs_consZ (pg_nm 8 sc__law_shows.nd) pgs_nilZ))) (qss_one (qs_if (pq_or (pq_dni hu (pr_var 7) (pr_var 4)) (pq_or1 (pq_cmp op_gt gt_ok (pr_dg hu (pr_var 4) (pr_var 7) (fun _ _ => rfl)) (pr_op op_addZ add_ok (pr_var 6) (pr_var 8)) (nomark _)))).pt (qss_one (qs_ret pr_bl)) qss_nil)))))
    (qss_cons (qs_setLc 9 (own := [("place", 5), ("spent", 6)]) rfl sc__law_shows.nd (pi_seqZ (pr_var 2)) (blkOk_by (by first | (show blkC N__law_shows (defScope st__law_shows) _ _ = true; decide +kernel) | with_unfolding_all rfl)) (fun _ _ _ _ _ => (pg_tupZ rfl (pgs_consZ (pg_nm 5 sc__law_shows.nd) (pgs_consZ (pg_nm 6 sc__law_shows.nd) pgs_nilZ)))) (fun _ _ _ _ _ => (pts_oneZ (pq_cmp (op_eqZ hu) eq_ok (pr_ix ix_seqZ ix_ok (pr_var 5) pr_int (fun _ _ => rfl)) (pr_blt call_len_seq len_ok T.n_len bo_len (pl_cons (pr_var 0) pl_nil)) (nomark _)))) (fun _ _ _ _ _ => (pr_var 6)) (by rfl))
    (qss_cons (qs_if (pq_isN (pr_var 3)) (qss_one (qs_ret (pr_cmp (op_eqZ hu) eq_ok (pr_var 9) (pr_lst pl_nil nilL_len) (nomark _)))) qss_nil)
    (qss_one (qs_ret (pr_blt (cr_all rfl) all_ok T.n_all bo_all (pl_cons (pr_lc (own := [("spent", 6)]) rfl sc__law_shows.nd (pi_seqZ (pr_var 9)) (blkOk_by (by first | (show blkC N__law_shows (defScope st__law_shows) _ _ = true; decide +kernel) | with_unfolding_all rfl)) (fun _ _ _ _ _ => (pg_nm 6 sc__law_shows.nd)) (fun _ _ _ _ _ => pts_nilZ) (fun _ _ _ _ _ => (pr_cmp op_ge ge_ok (pr_var 6) (pr_var 3) (nomark _)))) pl_nil))))))))))
theorem c__law_misshapen (T : Txt K mg cl) : Cal P w K mg base "_law_misshapen" 4 ["pool", "rows", "many", "most"] (spM K cl 4 m__law_misshapen) := by
  refine cal_M 3 (N := N__law_misshapen) T.f__law_misshapen sc__law_misshapen (by decide) (fun _ _ _ _ _ _ us hl => match us, hl with | [_, _, _, _], _ => rfl) (fun f cdv A outer s H E hr => ?_)
  have hu := hu_room hr
  exact (qss_cons (qs_set 4 sc__law_misshapen.nd (pr_callMC 0 (c__law_take T 2) (hr.mono (by decide)) (pl_cons (pr_var 0) (pl_cons (pr_blt call_len_seq len_ok T.n_len bo_len (pl_cons (pr_var 1) pl_nil)) pl_nil)) (consL_len (consL_len nilL_len))))
    (qss_cons (qs_asg (ws := [5, 6]) (pr_ix ix_seqZ ix_ok (pr_var 1) (pr_var 4) (fun _ _ => rfl)) (pg_tupZ rfl (pgs_consZ (pg_nm 5 sc__law_misshapen.nd) (pgs_consZ (pg_nm 6 sc__law_misshapen.nd) pgs_nilZ))))
    (qss_cons (qs_set 7 sc__law_misshapen.nd (pr_lst (pl_cons (pr_lst (pl_cons (pr_var 5) (pl_cons (pr_var 6) pl_nil)) (consL_len (consL_len nilL_len))) (pl_cons (pr_tup (pl_cons (pr_var 5) pl_nil) (consL_len nilL_len)) (pl_cons (pr_tup (pl_cons (pr_var 5) (pl_cons pr_non pl_nil)) (consL_len (consL_len nilL_len))) (pl_cons (pr_tup (pl_cons (pr_var 5) (pl_cons pr_bl pl_nil)) (consL_len (consL_len nilL_len))) (pl_cons (pr_tup (pl_cons (pr_tyc call_list_of list_ok T.n_list bo_list (pl_cons (pr_var 5) pl_nil)) (pl_cons (pr_var 6) pl_nil)) (consL_len (consL_len nilL_len))) (pl_cons (pr_tup (pl_cons (pr_ix ix_seqZ ix_ok (pr_var 5) pr_int (fun _ _ => rfl)) (pl_cons (pr_var 6) pl_nil)) (consL_len (consL_len nilL_len))) (pl_cons pr_non (pl_cons (pr_tup (pl_cons (pr_var 5) (pl_cons (pr_var 6) (pl_cons pr_int pl_nil))) (consL_len (consL_len (consL_len nilL_len)))) pl_nil)))))))) (consL_len (consL_len (consL_len (consL_len (consL_len (consL_len (consL_len (consL_len nilL_len))))))))))
    (qss_cons (qs_set 7 sc__law_misshapen.nd (pr_op op_addZ add_ok (pr_var 7) (pr_lst (pl_cons (pr_tup (pl_cons (pr_tup (pl_cons (pr_op op_addZ add_ok (pr_var 2) pr_int) (pl_cons pr_int pl_nil)) (consL_len (consL_len nilL_len))) (pl_cons (pr_var 6) pl_nil)) (consL_len (consL_len nilL_len))) (pl_cons (pr_tup (pl_cons (pr_tup (pl_cons (pr_ix ix_seqZ ix_ok (pr_var 5) pr_int (fun _ _ => rfl)) (pl_cons (pr_op op_addZ add_ok (pr_var 3) pr_int) pl_nil)) (consL_len (consL_len nilL_len))) (pl_cons (pr_var 6) pl_nil)) (consL_len (consL_len nilL_len))) (pl_cons (pr_tup (pl_cons (pr_tup (pl_cons (pr_neg pr_int) (pl_cons pr_int pl_nil)) (consL_len (consL_len nilL_len))) (pl_cons (pr_var 6) pl_nil)) (consL_len (consL_len nilL_len))) (pl_cons (pr_tup (pl_cons (pr_tup (pl_cons (pr_ix ix_seqZ ix_ok (pr_var 5) pr_int (fun _ _ => rfl)) (pl_cons pr_non pl_nil)) (consL_len (consL_len nilL_len))) (pl_cons (pr_var 6) pl_nil)) (consL_len (consL_len nilL_len))) pl_nil)))) (consL_len (consL_len (consL_len (consL_len nilL_len)))))))
    (qss_cons (qs_if (pq_cmp (op_lt3 hu) lt3_ok (pr_ix ix_seqZ ix_ok (pr_var 5) pr_int (fun _ _ => rfl)) pr_int (nomark _)) (qss_one (qs_set 7 sc__law_misshapen.nd (pr_op op_addZ add_ok (pr_var 7) (pr_op op_mulZ mul_ok (pr_lst (pl_cons (pr_tup (pl_cons (pr_tup (pl_cons (pr_ix ix_seqZ ix_ok (pr_var 5) pr_int (fun _ _ => rfl)) (pl_cons (pr_cmp (op_eqZ hu) eq_ok (pr_ix ix_seqZ ix_ok (pr_var 5) pr_int (fun _ _ => rfl)) pr_int (nomark _)) pl_nil)) (consL_len (consL_len nilL_len))) (pl_cons (pr_var 6) pl_nil)) (consL_len (consL_len nilL_len))) pl_nil) (consL_len nilL_len)) pr_int)))) qss_nil)
    (qss_cons (qs_set 8 sc__law_misshapen.nd (pr_op op_addZ add_ok (pr_op op_addZ add_ok (pr_tyc call_tuple_of tuple_ok T.n_tuple bo_tuple (pl_cons (pr_sl (pr_var 1) po_noZ (po_soZ (pr_var 4))) pl_nil)) (pr_tup (pl_cons (pr_callMC 0 (c__law_pick T) (hr.mono (by decide)) (pl_cons (pr_var 0) (pl_cons (pr_var 7) pl_nil)) (consL_len (consL_len nilL_len))) pl_nil) (consL_len nilL_len))) (pr_tyc call_tuple_of tuple_ok T.n_tuple bo_tuple (pl_cons (pr_sl (pr_var 1) (po_soZ (pr_op op_addZ add_ok (pr_var 4) pr_int)) po_noZ) pl_nil))))
    (qss_one (qs_ret (pr_callMC 0 (c__law_pick T) (hr.mono (by decide)) (pl_cons (pr_var 0) (pl_cons (pr_lst (pl_cons (pr_var 8) (pl_cons (pr_var 8) (pl_cons (pr_var 8) (pl_cons (pr_op op_addZ add_ok (pr_tyc call_tuple_of tuple_ok T.n_tuple bo_tuple (pl_cons (pr_var 1) pl_nil)) (pr_tup (pl_cons (pr_ix ix_seqZ ix_ok (pr_var 1) (pr_var 4) (fun _ _ => rfl)) pl_nil) (consL_len nilL_len))) (pl_cons (pr_tyc call_list_of list_ok T.n_list bo_list (pl_cons (pr_var 1) pl_nil)) (pl_cons pr_non (pl_cons pr_str (pl_cons pr_int (pl_cons pr_tupE pl_nil))))))))) (consL_len (consL_len (consL_len (consL_len (consL_len (consL_len (consL_len (consL_len (consL_len nilL_len)))))))))) pl_nil)) (consL_len (consL_len nilL_len)))))))))))
theorem c_are_priced (T : Txt K mg cl) : Cal P w K mg base "are_priced" 3 ["pages", "told"] (spP K cl 2 m_are_priced) := by
  refine cal_P 2 (N := N_are_priced) T.f_are_priced sc_are_priced (by decide) (fun _ _ _ _ _ _ us hl => match us, hl with | [_, _], _ => rfl) (fun f cdv A outer s H E hr => ?_)
  have hu := hu_room hr
  exact (qss_cons (qs_if (pq_not (pq_val (pr_blt call_isiZ isi_ok T.n_isinstance bo_isinstance (pl_cons (pr_var 1) (pl_cons (pr_ty T.n_tuple bo_tuple) pl_nil))))) (qss_one (qs_ret pr_bl)) qss_nil)
    (qss_cons (qs_for (ws := [2]) PassesOwn.never rfl (pi_seqZ (pr_var 1)) (pg_nm 2 sc_are_priced.nd) (qss_cons (qs_if (pq_or (pq_not (pq_val (pr_blt call_isiZ isi_ok T.n_isinstance bo_isinstance (pl_cons (pr_var 2) (pl_cons (pr_ty T.n_tuple bo_tuple) pl_nil))))) (pq_or (pq_cmp (op_neZ hu) ne_ok (pr_blt call_len_seq len_ok T.n_len bo_len (pl_cons (pr_var 2) pl_nil)) pr_int (nomark _)) (pq_or (pq_not (pq_val (pr_callC (c_is_whole T) (hr.mono (by decide)) (pl_cons (pr_ix ix_seqZ ix_ok (pr_var 2) pr_int (fun _ _ => rfl)) pl_nil) (consL_len nilL_len)))) (pq_or1 (pq_cmp (op_lt3 hu) lt3_ok (pr_ix ix_seqZ ix_ok (pr_var 2) pr_int (fun _ _ => rfl)) pr_int (nomark _)))))).pt (qss_one (qs_ret pr_bl)) qss_nil)
    (qss_cons (qs_set 3 sc_are_priced.nd (pr_ix ix_seqZ ix_ok (pr_var 2) pr_int (fun _ _ => rfl)))
    (qss_cons (qs_if (pq_or (pq_not (pq_val (pr_blt call_isiZ isi_ok T.n_isinstance bo_isinstance (pl_cons (pr_var 3) (pl_cons (pr_ty T.n_tuple bo_tuple) pl_nil))))) (pq_or1 (pq_cmp (op_neZ hu) ne_ok (pr_blt call_len_seq len_ok T.n_len bo_len (pl_cons (pr_var 3) pl_nil)) pr_int (nomark _)))).pt (qss_one (qs_ret pr_bl)) qss_nil)
    (qss_one (qs_if (pq_or (pq_not (pq_val (pr_callC (c_is_number T) (hr.mono (by decide)) (pl_cons (pr_ix ix_seqZ ix_ok (pr_var 3) pr_int (fun _ _ => rfl)) (pl_cons (pr_op op_addZ add_ok (pr_fld "Pages" T.cls_Pages T.na_Pages_many (pr_var 0)) pr_int) pl_nil)) (consL_len (consL_len nilL_len))))) (pq_or1 (pq_not (pq_val (pr_callC (c_is_number T) (hr.mono (by decide)) (pl_cons (pr_ix ix_seqZ ix_ok (pr_var 3) pr_int (fun _ _ => rfl)) (pl_cons (pr_op op_addZ add_ok (pr_fld "Pages" T.cls_Pages T.na_Pages_most (pr_var 0)) pr_int) pl_nil)) (consL_len (consL_len nilL_len))))))).pt (qss_one (qs_ret pr_bl)) qss_nil))))))
    (qss_one (qs_ret (pr_cmp (op_eqZ hu) eq_ok (pr_lenSet (own := [("pair", 2)]) rfl hu sc_are_priced.nd rfl T.n_len (pi_seqZ (pr_var 1)) (blkOk_by (by first | (show blkC N_are_priced (defScope st_are_priced) _ _ = true; decide +kernel) | with_unfolding_all rfl)) (fun _ _ _ _ _ => (pg_nm 2 sc_are_priced.nd)) (fun _ _ _ _ _ => (pr_ix ix_seqZ ix_ok (pr_var 2) pr_int (fun _ _ => rfl)))) (pr_blt call_len_seq len_ok T.n_len bo_len (pl_cons (pr_var 1) pl_nil)) (nomark _))))))
theorem c_shows_pages (T : Txt K mg cl) : Cal P w K mg base "shows_pages" 9 ["pieces", "room", "turns", "least", "most", "told", "total"] (spP K cl 7 m_shows_pages) := by
  refine cal_P 8 (N := N_shows_pages) T.f_shows_pages sc_shows_pages (by decide) (fun _ _ _ _ _ _ us hl => match us, hl with | [_, _, _, _, _, _, _], _ => rfl) (fun f cdv A outer s H E hr => ?_)
  have hu := hu_room hr
  exact (qss_cons (qs_set 7 sc_shows_pages.nd (pr_makeC (c_Pages T) (hr.mono (by decide)) (pl_cons (pr_var 0) (pl_cons (pr_var 1) (pl_cons (pr_var 2) (pl_cons (pr_var 3) (pl_cons (pr_var 4) pl_nil))))) (fun a b c h => congrArg (· + 1) ((consL_len (consL_len (consL_len (consL_len (consL_len nilL_len))))) a b c h))))
    (qss_cons (qs_if (pq_not (pq_val (pr_callC (c_are_priced T) (hr.mono (by decide)) (pl_cons (pr_var 7) (pl_cons (pr_var 5) pl_nil)) (consL_len (consL_len nilL_len))))) (qss_one (qs_ret pr_bl)) qss_nil)
    (qss_cons (qs_set 8 sc_shows_pages.nd (pr_tyc (call_dictT rfl hu) dictT_ok T.n_dict bo_dict (pl_cons (pr_var 5) pl_nil)))
    (qss_cons (qs_if (pq_cmp (op_neZ hu) ne_ok (pr_get1 hu (pr_var 8) (pr_tup (pl_cons pr_int (pl_cons pr_int pl_nil)) (consL_len (consL_len nilL_len))) ⟨rfl, rfl, rfl, rfl⟩) pr_int (nomark _)) (qss_one (qs_ret pr_bl)) qss_nil)
    (qss_cons (qs_for (ws := [9, 10]) PassesOwn.never rfl (pi_seqZ (pr_var 5)) (pg_tupZ rfl (pgs_consZ (pg_nm 9 sc_shows_pages.nd) (pgs_consZ (pg_nm 10 sc_shows_pages.nd) pgs_nilZ))) (qss_one (qs_for (ws := [11, 12]) PassesOwn.never rfl (pi_seqZ (pr_methC (cm_Pages_following T) T.cls_Pages (hr.mono (by decide)) (pr_var 7) (pl_cons (pr_var 9) pl_nil) (fun a b c h => congrArg (· + 1) ((consL_len nilL_len) a b c h)))) (pg_tupZ rfl (pgs_consZ (pg_nm 11 sc_shows_pages.nd) (pgs_consZ (pg_nm 12 sc_shows_pages.nd) pgs_nilZ))) (qss_one (qs_if (pq_or (pq_dni hu (pr_var 11) (pr_var 8)) (pq_or1 (pq_cmp op_gt gt_ok (pr_dg hu (pr_var 8) (pr_var 11) (fun _ _ => rfl)) (pr_op op_addZ add_ok (pr_var 10) (pr_var 12)) (nomark _)))).pt (qss_one (qs_ret pr_bl)) qss_nil)))))
    (qss_cons (qs_setLc 13 (own := [("place", 9), ("spent", 10)]) rfl sc_shows_pages.nd (pi_seqZ (pr_var 5)) (blkOk_by (by first | (show blkC N_shows_pages (defScope st_shows_pages) _ _ = true; decide +kernel) | with_unfolding_all rfl)) (fun _ _ _ _ _ => (pg_tupZ rfl (pgs_consZ (pg_nm 9 sc_shows_pages.nd) (pgs_consZ (pg_nm 10 sc_shows_pages.nd) pgs_nilZ)))) (fun _ _ _ _ _ => (pts_oneZ (pq_cmp (op_eqZ hu) eq_ok (pr_ix ix_seqZ ix_ok (pr_var 9) pr_int (fun _ _ => rfl)) (pr_fld "Pages" T.cls_Pages T.na_Pages_many (pr_var 7)) (nomark _)))) (fun _ _ _ _ _ => (pr_var 10)) (by rfl))
    (qss_cons (qs_if (pq_isN (pr_var 6)) (qss_one (qs_ret (pr_not (pr_var 13)))) qss_nil)
    (qss_one (qs_ret (pr_and (pr_callC (c_is_whole T) (hr.mono (by decide)) (pl_cons (pr_var 6) pl_nil) (consL_len nilL_len)) (pr_one (pr_blt (cr_all rfl) all_ok T.n_all bo_all (pl_cons (pr_lc (own := [("spent", 10)]) rfl sc_shows_pages.nd (pi_seqZ (pr_var 13)) (blkOk_by (by first | (show blkC N_shows_pages (defScope st_shows_pages) _ _ = true; decide +kernel) | with_unfolding_all rfl)) (fun _ _ _ _ _ => (pg_nm 10 sc_shows_pages.nd)) (fun _ _ _ _ _ => pts_nilZ) (fun _ _ _ _ _ => (pr_cmp op_ge ge_ok (pr_var 10) (pr_var 6) (nomark _)))) pl_nil)))))))))))))
theorem k_law (T : Txt K mg cl) {f : Addr} {fd : FuncData} (Fn : Fun K "law" "law" st_law f fd) : FnOk P w K mg base CX0 10 f fd ["script"] (spP K cl 1 m_law) := by
  refine okP b_law Fn sc_law (by decide) (fun cdv A outer s H E hr => ?_)
  have hu := hu_room hr
  exact (qss_cons (qs_set 1 sc_law.nd (pr_callC (c__law_pool T) (hr.mono (by decide)) (pl_cons (pr_var 0) pl_nil) (consL_len nilL_len)))
    (qss_cons (qs_for (ws := [2]) PassesOwn.never rfl (pi_rng1 T.n_range (pl_cons pr_int pl_nil)) (pg_nm 2 sc_law.nd) (qss_cons (qs_asg (ws := [3, 4]) (pr_callMC 1 (c__law_amounts T) (hr.mono (by decide)) (pl_cons (pr_var 1) pl_nil) (consL_len nilL_len)) (pg_tupZ rfl (pgs_consZ (pg_nm 3 sc_law.nd) (pgs_consZ (pg_nm 4 sc_law.nd) pgs_nilZ))))
    (qss_cons (qs_if (pq_cmp op_gt gt_ok (pr_var 2) pr_int (nomark _)) (qss_one (qs_set 3 sc_law.nd (pr_blt (call_minZ rfl) min_ok T.n_min bo_min (pl_cons (pr_var 3) (pl_cons pr_int pl_nil))))) qss_nil)
    (qss_cons (qs_set 5 sc_law.nd (pr_callMC 1 (c__law_pieces T) (hr.mono (by decide)) (pl_cons (pr_var 1) (pl_cons (pr_var 3) pl_nil)) (consL_len (consL_len nilL_len))))
    (qss_cons (qs_set 6 sc_law.nd (pr_callMC 1 (c__law_room T) (hr.mono (by decide)) (pl_cons (pr_var 1) (pl_cons (pr_var 5) (pl_cons (pr_var 4) pl_nil))) (consL_len (consL_len (consL_len nilL_len)))))
    (qss_cons (qs_set 7 sc_law.nd (pr_callC (c__law_fitting T) (hr.mono (by decide)) (pl_cons (pr_callC (c__law_scaled T) (hr.mono (by decide)) (pl_cons (pr_var 5) (pl_cons (pr_var 6) pl_nil)) (consL_len (consL_len nilL_len))) pl_nil) (consL_len nilL_len)))
    (qss_cons (qs_set 8 sc_law.nd (pr_op op_addZ add_ok pr_int (pr_callMC 1 (c__law_take T 2) (hr.mono (by decide)) (pl_cons (pr_var 1) (pl_cons pr_int pl_nil)) (consL_len (consL_len nilL_len)))))
    (qss_cons (qs_set 9 sc_law.nd (pr_if (pq_cmp (op_lt3 hu) lt3_ok (pr_var 3) pr_int (nomark _)) (pr_callMC 1 (c__law_pick T) (hr.mono (by decide)) (pl_cons (pr_var 1) (pl_cons (pr_lst (pl_cons (pr_var 8) (pl_cons (pr_op op_addZ add_ok (pr_var 8) pr_int) (pl_cons pr_int pl_nil))) (consL_len (consL_len (consL_len nilL_len)))) pl_nil)) (consL_len (consL_len nilL_len))) (pr_op op_addZ add_ok (pr_var 8) (pr_callMC 1 (c__law_take T 2) (hr.mono (by decide)) (pl_cons (pr_var 1) (pl_cons pr_int pl_nil)) (consL_len (consL_len nilL_len))))))
    (qss_cons (qs_set 10 sc_law.nd (pr_callMC 1 (c__law_turn_costs T) (hr.mono (by decide)) (pl_cons (pr_var 1) (pl_cons (pr_var 3) pl_nil)) (consL_len (consL_len nilL_len))))
    (qss_cons (qs_set 11 sc_law.nd (pr_tup (pl_cons (pr_var 10) (pl_cons (pr_var 8) (pl_cons (pr_var 9) pl_nil))) (consL_len (consL_len (consL_len nilL_len)))))
    (qss_cons (qs_set 12 sc_law.nd (pr_callC (c__law_least T) (hr.mono (by decide)) (pl_cons (pr_var 7) (pl_cons (pr_var 11) pl_nil)) (consL_len (consL_len nilL_len))))
    (qss_cons (qs_set 13 sc_law.nd (pr_blt (cr_sortR hu) sortR_ok T.n_sorted bo_sorted (pl_cons (pr_itemsC (own := [("place", 14)]) rfl hu sc_law.nd (by decide) (pv 12) (blkOk_by (by first | (show blkC N_law (defScope st_law) _ _ = true; decide +kernel) | with_unfolding_all rfl)) rfl (fun _ _ _ _ _ => (pg_nm0 14 sc_law.nd)) (fun _ _ _ _ _ => (pv 14)) (fun _ _ _ _ _ => (pv 12)) (fun _ _ _ _ _ => (pv 14))) pl_nil)))
    (qss_cons (qs_if (pq_not (pq_val (pr_callC (c__law_same T 6) (hr.mono (by decide)) (pl_cons (pr_callC (c_page_potentials T) (hr.mono (by decide)) (pl_cons (pr_callMC 1 (c__law_given T) (hr.mono (by decide)) (pl_cons (pr_var 1) (pl_cons (pr_var 5) pl_nil)) (consL_len (consL_len nilL_len))) (pl_cons (pr_var 6) (pl_cons (pr_var 10) (pl_cons (pr_var 8) (pl_cons (pr_var 9) pl_nil))))) (consL_len (consL_len (consL_len (consL_len (consL_len nilL_len)))))) (pl_cons (pr_tyc call_tuple_of tuple_ok T.n_tuple bo_tuple (pl_cons (pr_var 13) pl_nil)) pl_nil)) (consL_len (consL_len nilL_len))))) (qss_one (qs_ret pr_bl)) qss_nil)
    (qss_cons (qs_setLc 15 (own := [("place", 14), ("spent", 16)]) rfl sc_law.nd (pi_seqZ (pr_var 13)) (blkOk_by (by first | (show blkC N_law (defScope st_law) _ _ = true; decide +kernel) | with_unfolding_all rfl)) (fun _ _ _ _ _ => (pg_tupZ rfl (pgs_consZ (pg_nm 14 sc_law.nd) (pgs_consZ (pg_nm 16 sc_law.nd) pgs_nilZ)))) (fun _ _ _ _ _ => (pts_oneZ (pq_cmp (op_eqZ hu) eq_ok (pr_ix ix_seqZ ix_ok (pr_var 14) pr_int (fun _ _ => rfl)) (pr_var 3) (nomark _)))) (fun _ _ _ _ _ => (pr_var 16)) (by rfl))
    (qss_cons (qs_set 17 sc_law.nd (pr_callC (c_best_pages T) (hr.mono (by decide)) (pl_cons (pr_var 5) (pl_cons (pr_var 6) (pl_cons (pr_var 10) (pl_cons (pr_var 8) (pl_cons (pr_var 9) pl_nil))))) (consL_len (consL_len (consL_len (consL_len (consL_len nilL_len)))))))
    (qss_cons (qs_if (pq_or (pq_cmp (op_neZ hu) ne_ok (pr_isN (pr_var 17)) (pr_cmp (op_eqZ hu) eq_ok (pr_var 15) (pr_lst pl_nil nilL_len) (nomark _)) (nomark _)) (pq_or1 (pq_and (pq_val (pr_var 15)) (pq_and1 (pq_not (pq_val (pr_callC (c__law_same T 6) (hr.mono (by decide)) (pl_cons (pr_ix ix_seqZ ix_ok (pr_var 17) pr_int (fun _ _ => rfl)) (pl_cons (pr_blt (call_minZ rfl) min_ok T.n_min bo_min (pl_cons (pr_var 15) pl_nil)) pl_nil)) (consL_len (consL_len nilL_len))))))).pt)).pt (qss_one (qs_ret pr_bl)) qss_nil)
    (qss_cons (qs_set 18 sc_law.nd (pr_if (pq_val (pr_var 15)) (pr_blt (call_minZ rfl) min_ok T.n_min bo_min (pl_cons (pr_var 15) pl_nil)) (pr_op op_pow pow_ok pr_int pr_int)))
    (qss_cons (qs_set 19 sc_law.nd (pr_lst (pl_cons (pr_tup (pl_cons (pr_tyc call_tupleP tupleP_ok T.n_tuple bo_tuple (pl_cons (pr_var 13) pl_nil)) (pl_cons (pr_callMC 1 (c__law_pick T) (hr.mono (by decide)) (pl_cons (pr_var 1) (pl_cons (pr_lst (pl_cons pr_bl (pl_cons pr_str (pl_cons (pr_tup (pl_cons pr_int (pl_cons pr_int pl_nil)) (consL_len (consL_len nilL_len))) pl_nil))) (consL_len (consL_len (consL_len nilL_len)))) pl_nil)) (consL_len (consL_len nilL_len))) (pl_cons pr_bl pl_nil))) (consL_len (consL_len (consL_len nilL_len)))) pl_nil) (consL_len nilL_len)))
    (qss_cons (qs_for (ws := [20]) PassesOwn.never rfl (pi_rng1 T.n_range (pl_cons (pr_if (pq_cmp (op_lt3 hu) lt3_ok (pr_var 3) pr_int (nomark _)) pr_int pr_int) pl_nil)) (pg_nm 20 sc_law.nd) (qss_cons (qs_set 21 sc_law.nd (pr_callMC 1 (c__law_pick T) (hr.mono (by decide)) (pl_cons (pr_var 1) (pl_cons (pr_lst (pl_cons (pr_var 13) (pl_cons (pr_callMC 1 (c__law_other T) (hr.mono (by decide)) (pl_cons (pr_var 1) (pl_cons (pr_var 7) (pl_cons (pr_var 11) (pl_cons (pr_var 13) pl_nil)))) (consL_len (consL_len (consL_len (consL_len nilL_len))))) (pl_cons (pr_callMC 1 (c__law_spoilt T) (hr.mono (by decide)) (pl_cons (pr_var 1) (pl_cons (pr_var 13) pl_nil)) (consL_len (consL_len nilL_len))) pl_nil))) (consL_len (consL_len (consL_len nilL_len)))) pl_nil)) (consL_len (consL_len nilL_len))))
    (qss_cons (qs_set 22 sc_law.nd (pr_callMC 1 (c__law_pick T) (hr.mono (by decide)) (pl_cons (pr_var 1) (pl_cons (pr_lst (pl_cons (pr_var 18) (pl_cons (pr_var 18) (pl_cons (pr_op op_addZ add_ok (pr_var 18) pr_int) (pl_cons (pr_op op_sub sub_ok (pr_var 18) pr_int) (pl_cons pr_non (pl_cons pr_int pl_nil)))))) (consL_len (consL_len (consL_len (consL_len (consL_len (consL_len nilL_len))))))) pl_nil)) (consL_len (consL_len nilL_len))))
    (qss_cons (qs_app (ps_expr (pe_bm PySem.F.plainAttrs_list PySem.F.slot_list_append PySem.F.type_list_append mt_append (pv 19) (pa_cons (pr_tup (pl_cons (pr_callMC 1 (c__law_mixed T) (hr.mono (by decide)) (pl_cons (pr_var 1) (pl_cons (pr_var 21) pl_nil)) (consL_len (consL_len nilL_len))) (pl_cons (pr_var 22) (pl_cons (pr_callC (c__law_shows T) (hr.mono (by decide)) (pl_cons (pr_var 7) (pl_cons (pr_var 11) (pl_cons (pr_var 21) (pl_cons (pr_var 22) pl_nil)))) (consL_len (consL_len (consL_len (consL_len nilL_len))))) pl_nil))) (consL_len (consL_len (consL_len nilL_len)))) pa_nil))))
    (qss_one (qs_app (ps_expr (pe_bm PySem.F.plainAttrs_list PySem.F.slot_list_append PySem.F.type_list_append mt_append (pv 19) (pa_cons (pr_tup (pl_cons (pr_callMC 1 (c__law_misshapen T) (hr.mono (by decide)) (pl_cons (pr_var 1) (pl_cons (pr_var 13) (pl_cons (pr_var 3) (pl_cons (pr_var 9) pl_nil)))) (consL_len (consL_len (consL_len (consL_len nilL_len))))) (pl_cons (pr_callMC 1 (c__law_pick T) (hr.mono (by decide)) (pl_cons (pr_var 1) (pl_cons (pr_lst (pl_cons (pr_var 18) (pl_cons pr_non pl_nil)) (consL_len (consL_len nilL_len))) pl_nil)) (consL_len (consL_len nilL_len))) (pl_cons pr_bl pl_nil))) (consL_len (consL_len (consL_len nilL_len)))) pa_nil)))))))))
    (qss_one (qs_for (ws := [21, 22, 23]) PassesOwn.never rfl (pi_seqZ (pr_var 19)) (pg_tupZ rfl (pgs_consZ (pg_nm 21 sc_law.nd) (pgs_consZ (pg_nm 22 sc_law.nd) (pgs_consZ (pg_nm 23 sc_law.nd) pgs_nilZ)))) (qss_one (qs_if (pq_not (pq_val (pr_callC (c__law_same T 6) (hr.mono (by decide)) (pl_cons (pr_callC (c_shows_pages T) (hr.mono (by decide)) (pl_cons (pr_var 5) (pl_cons (pr_var 6) (pl_cons (pr_var 10) (pl_cons (pr_var 8) (pl_cons (pr_var 9) (pl_cons (pr_var 21) (pl_cons (pr_var 22) pl_nil))))))) (consL_len (consL_len (consL_len (consL_len (consL_len (consL_len (consL_len nilL_len)))))))) (pl_cons (pr_var 23) pl_nil)) (consL_len (consL_len nilL_len))))) (qss_one (qs_ret pr_bl)) qss_nil)))))))))))))))))))))))
    (qss_one (qs_ret pr_bl))))
end
end K77

set_option Elab.async false
set_option linter.all false
set_option maxRecDepth 100000
set_option maxHeartbeats 1000000
namespace K77
open PySem PySem.Spec PyProof.Rows L2 Z
/-- the pool's state -/
def poolD (cs : List Int) (i v r : Int) : OC := .lst [.lst (cs.map Z.D.int), .int i, .int v, .int r]
def PoolOk (o : OC) : Prop := ∃ cs i v r, o = poolD cs i v r ∧ 0 ≤ i ∧ 0 ≤ v ∧ 0 ≤ r ∧ r < 2147483647 ∧ (∀ c ∈ cs, 0 ≤ c) ∧ cs.length ≤ 63
theorem okMul_l {i j : Int} (h : i.natAbs < 2 ^ 63) : okMul i j = true := by unfold okMul; simp [h]
theorem okMul_r {i j : Int} (h : j.natAbs < 2 ^ 63) : okMul i j = true := by unfold okMul; simp [h]
theorem Big_le : 2 ^ 63 ≤ Big := by unfold Big; exact Nat.pow_le_pow_right (by decide) (by decide)
theorem okDiv_of {j : Int} (h : 0 < j) (h2 : j.natAbs < 2 ^ 63) : okDiv j = true := by
  unfold okDiv
  have := Big_le
  simp [h]; omega
theorem take0 {cs : List Int} {i v r m : Int} (mr : OC → List Z.D → Option (Rt × OC)) (hv : 0 < v) (hm : 0 < m) (hm2 : m.natAbs < 2 ^ 63) :
    runM N__law_take (b__law_take mr) (poolD cs i v r) [.int m] = some (.dat (.int (v % m)), poolD cs i (v / m) r) := by
  have := okDiv_of hm hm2
  simp [poolD, b__law_take, hv, hm, this]
theorem hp18 : powG (.int 10) (.int 18) = some (.dat (.int 1000000000000000000)) := by unfold powG; simp
def mixA (r c i : Int) : Int := (r * 48271 + c * 69621 + (i + 1) * 613) % 2147483647
theorem take1a {cs : List Int} {i r m k : Int} {o' : OC} (mr : OC → List Z.D → Option (Rt × OC)) (c : Int) (hi : 0 ≤ i) (hm : 0 < m) (hlt : i < (cs.length : Int)) (hc : cs[i.toNat]? = some c) (hb : 1000000000000000000 ≤ c)
    (hmr : mr (poolD cs (i + 1) (c / 2) r) [.int m] = some (.dat (.int k), o')) :
    runM N__law_take (b__law_take mr) (poolD cs i 0 r) [.int m] = some (.dat (.int k), o') := by
  have hd2 : okDiv 2 = true := okDiv_of (by decide) (by decide)
  have ha : atI (cs.map Z.D.int) i = some (.int c) := by
    unfold atI ixN
    rw [if_pos hi, if_pos (by rw [List.length_map]; exact hlt)]
    show (cs.map Z.D.int)[i.toNat]? = _
    rw [List.getElem?_map, hc]; rfl
  unfold poolD at hmr ⊢
  simp [b__law_take, hm, hlt, ha, hp18, hb, hd2, hmr]
theorem take1b {cs : List Int} {i r m : Int} (mr : OC → List Z.D → Option (Rt × OC)) (c : Int) (hi : 0 ≤ i) (hm : 0 < m) (hc : (i < (cs.length : Int) ∧ cs[i.toNat]? = some c) ∨ (¬ i < (cs.length : Int) ∧ c = 0)) (hb : ¬ 1000000000000000000 ≤ c) (hr : 0 ≤ r) (hr2 : r < 2147483647) :
    runM N__law_take (b__law_take mr) (poolD cs i 0 r) [.int m] =
        some (.dat (.int ((mixA r c i * mixA r c i + mixA r c i * 7919 + 104729) % 1000000007 / 3 % m)), poolD cs (i + 1) 0 (mixA r c i)) := by
  have h1 : okMul r 48271 = true := okMul_r (by decide)
  have h2 : okMul c 69621 = true := okMul_r (by decide)
  have h3 : okMul (i + 1) 613 = true := okMul_r (by decide)
  have hd3 : okDiv 3 = true := okDiv_of (by decide) (by decide)
  generalize hq : mixA r c i = q
  unfold mixA at hq
  have hq0 : 0 ≤ q ∧ q < 2147483647 := by rw [← hq]; omega
  have h4 : okMul q q = true := okMul_r (by omega)
  have h5 : okMul q 7919 = true := okMul_r (by decide)
  rcases hc with ⟨hlt, hc⟩ | ⟨hlt, rfl⟩
  · have ha : atI (cs.map Z.D.int) i = some (.int c) := by
      unfold atI ixN
      rw [if_pos hi, if_pos (by rw [List.length_map]; exact hlt)]
      show (cs.map Z.D.int)[i.toNat]? = _
      rw [List.getElem?_map, hc]; rfl
    simp [poolD, b__law_take, hm, hlt, ha, hp18, hb, hd3, h1, h2, h3, hq, h4, h5]
  · simp only [Int.zero_mul, Int.add_zero] at hq h2
    simp [poolD, b__law_take, hm, hlt, hp18, hb, hd3, h1, h2, h3, hq, h4, h5]
theorem take_ok {o : OC} {m : Int} (P : PoolOk o) (hm : 0 < m) (hm2 : m.natAbs < 2 ^ 63) : ∃ k o', m__law_take 2 o [.int m] = some (.dat (.int k), o') ∧ 0 ≤ k ∧ k < m ∧ PoolOk o' := by
  obtain ⟨cs, i, v, r, rfl, hi, hv, hr, hr2, hcs, hl⟩ := P
  by_cases hv0 : 0 < v
  · exact ⟨_, _, take0 _ hv0 hm hm2, Int.emod_nonneg _ (by omega), Int.emod_lt_of_pos _ hm, cs, i, v / m, r, rfl, hi, Int.ediv_nonneg hv (by omega), hr, hr2, hcs, hl⟩
  · have hv1 : v = 0 := by omega
    subst hv1
    have mix : ∀ c : Int, 0 ≤ mixA r c i ∧ mixA r c i < 2147483647 := fun c => by unfold mixA; omega
    by_cases hlt : i < (cs.length : Int)
    · obtain ⟨c, hc⟩ : ∃ c, cs[i.toNat]? = some c := ⟨_, List.getElem?_eq_getElem (by omega)⟩
      have hc0 := hcs c (List.mem_of_getElem? hc)
      by_cases hb : 1000000000000000000 ≤ c
      · refine ⟨_, _, take1a _ c hi hm hlt hc hb (take0 (i := i + 1) _ (by omega) hm hm2), Int.emod_nonneg _ (by omega), Int.emod_lt_of_pos _ hm, cs, i + 1, c / 2 / m, r, rfl, by omega, Int.ediv_nonneg (by omega) (by omega), hr, hr2, hcs, hl⟩
      · exact ⟨_, _, take1b _ c hi hm (.inl ⟨hlt, hc⟩) hb hr hr2, Int.emod_nonneg _ (by omega), Int.emod_lt_of_pos _ hm, cs, i + 1, 0, _, rfl, by omega, by omega, (mix c).1, (mix c).2, hcs, hl⟩
    · exact ⟨_, _, take1b _ 0 hi hm (.inr ⟨hlt, rfl⟩) (by decide) hr hr2, Int.emod_nonneg _ (by omega), Int.emod_lt_of_pos _ hm, cs, i + 1, 0, _, rfl, by omega, by omega, (mix 0).1, (mix 0).2, hcs, hl⟩
theorem pick_ok {o : OC} {ds : List Z.D} (P : PoolOk o) (h : ds ≠ []) (hl : ds.length < 2 ^ 62) : ∃ d o', m__law_pick o [.lst ds] = some (.dat d, o') ∧ d ∈ ds ∧ PoolOk o' := by
  have hpos : 0 < ds.length := List.length_pos_iff.mpr h
  obtain ⟨k, o', h1, h2, h3, h4⟩ := take_ok (m := (ds.length : Int)) P (by omega) (by omega)
  have hk : k.toNat < ds.length := by omega
  have ha : atI ds k = some ds[k.toNat] := by
    unfold atI ixN
    rw [if_pos h2, if_pos h3]
    show ds[k.toNat]? = _
    exact List.getElem?_eq_getElem hk
  refine ⟨ds[k.toNat], o', ?_, List.getElem_mem _, h4⟩
  simp [m__law_pick, b__law_pick, h1, ha]
theorem pool_ok {ns : List Int} (hl : ns.length ≤ 63) : ∃ o, m__law_pool [.scr ns] = some (.own o) ∧ PoolOk o := by
  let r : Z.D → Z.D := fun d => match d with | .int i => .int (if 0 ≤ i then 2 * i else -2 * i - 1) | d => d
  have key := lcS_map (fi := seqI (vS 0)) (i := 1) (f := e__law_pool_1) (env := [some (.dat (.scr ns)), none]) (env1 := [some (.dat (.scr ns)), none]) (ds := ns.map Z.D.int) r (by simp) (by simp; omega) (.inl rfl) (by
    intro d hd
    obtain ⟨i, hi, rfl⟩ := List.mem_map.mp hd
    have h2 : ∀ j : Int, okMul 2 j = true := fun j => okMul_l (by decide)
    have h3 : ∀ j : Int, okMul (-2) j = true := fun j => okMul_l (by decide)
    by_cases h : 0 ≤ i
    · exact ⟨.dat (.int (2 * i)), by simp [e__law_pool_1, h, h2], by simp [r, h]⟩
    · exact ⟨.dat (.int (-2 * i - 1)), by simp [e__law_pool_1, h, h3], by simp [r, h]⟩)
  have e : (ns.map Z.D.int).map r = (ns.map fun i => if 0 ≤ i then 2 * i else -2 * i - 1).map Z.D.int := by
    rw [List.map_map, List.map_map]; rfl
  refine ⟨poolD (ns.map fun i => if 0 ≤ i then 2 * i else -2 * i - 1) 0 0 17, ?_, _, 0, 0, 17, rfl, by decide, by decide, by decide, by decide, ?_, by simp; exact hl⟩
  · unfold m__law_pool
    rw [s_runP]
    show Option.bind (b__law_pool [some (.dat (.scr ns)), none]) fin = _
    unfold b__law_pool
    rw [s_ret, s_lstS, s_consL, key, e]
    simp [poolD]
  · intro c hc
    obtain ⟨i, _, rfl⟩ := List.mem_map.mp hc
    split <;> omega
/-! ### fractions -/
theorem okMul_B {i j : Int} (h : i.natAbs < Big) (h2 : j.natAbs < Big) : okMul i j = true := by unfold okMul; simp [h, h2]
theorem okDiv_B {j : Int} (h : 0 < j) (h2 : j.natAbs < Big) : okDiv j = true := by unfold okDiv; simp [h, h2]
def eucN : Nat → Nat → Nat → Nat × Nat
  | 0, a, b => (a, b)
  | n + 1, a, b => if b = 0 then (a, b) else eucN n b (a % b)
theorem eucN_gcd : ∀ (k n a b : Nat), b < 2 ^ k → 2 * k + 1 ≤ n → eucN n a b = (Nat.gcd a b, 0)
  | 0, n, a, b, hb, hn => by
    have : b = 0 := by simp at hb; exact hb
    subst this
    cases n with
    | zero => omega
    | succ n => simp [eucN]
  | k + 1, n, a, b, hb, hn => by
    obtain ⟨m, rfl⟩ : ∃ m, n = m + 2 := ⟨n - 2, by omega⟩
    by_cases h0 : b = 0
    · subst h0; simp [eucN]
    · unfold eucN
      rw [if_neg h0]
      by_cases h1 : a % b = 0
      · unfold eucN
        rw [if_pos h1, h1]
        have : Nat.gcd a b = b := Nat.gcd_eq_right (Nat.dvd_of_mod_eq_zero h1)
        rw [this]
      · unfold eucN
        rw [if_neg h1]
        have hr : a % b < b := Nat.mod_lt _ (by omega)
        have h2 : b % (a % b) < 2 ^ k := by
          have q1 : b % (a % b) < a % b := Nat.mod_lt _ (by omega)
          have q2 : b % (a % b) ≤ b - a % b := by
            have := Nat.mod_eq_sub_mod (Nat.le_of_lt hr)
            rw [this]; exact Nat.mod_le _ _
          have : 2 ^ (k + 1) = 2 ^ k * 2 := Nat.pow_succ 2 k
          omega
        rw [eucN_gcd k m (a % b) (b % (a % b)) h2 (by omega)]
        congr 1
        rw [Nat.gcd_comm (a % b), ← Nat.gcd_rec, Nat.gcd_comm (a % b), Nat.gcd_comm a b, Nat.gcd_rec b a, Nat.gcd_comm]
theorem eucN_gcd2 (k n a b : Nat) (ha : a < 2 ^ k) (hn : 2 * k + 2 ≤ n) : eucN n a b = (Nat.gcd a b, 0) := by
  obtain ⟨m, rfl⟩ : ∃ m, n = m + 1 := ⟨n - 1, by omega⟩
  unfold eucN
  by_cases h0 : b = 0
  · subst h0; simp
  · rw [if_neg h0, eucN_gcd k m b (a % b) (Nat.lt_of_le_of_lt (Nat.mod_le _ _) ha) (by omega)]
    congr 1
    rw [Nat.gcd_comm b, ← Nat.gcd_rec, Nat.gcd_comm]
theorem low_loop (n d : Int) : ∀ (ds : List Z.D) (a b : Nat) (t : Option Sl), a < Big → b < Big → ∃ t', forS (nmB 4) l__law_lowest_1 ds [some (.dat (.int n)), some (.dat (.int d)), some (.dat (.int (a : Int))), some (.dat (.int (b : Int))), t] =
    some (.nx [some (.dat (.int n)), some (.dat (.int d)), some (.dat (.int ((eucN ds.length a b).1 : Int))), some (.dat (.int ((eucN ds.length a b).2 : Int))), t'])
  | [], a, b, t, _, _ => ⟨t, rfl⟩
  | x :: ds, a, b, t, ha, hb => by
    unfold forS
    by_cases h0 : b = 0
    · subst h0
      refine ⟨some (.dat x), ?_⟩
      simp [l__law_lowest_1, eucN]
    · have hdiv : okDiv (b : Int) = true := okDiv_B (by omega) (by simpa using hb)
      have hmul : okMul (b : Int) ((a : Int) / (b : Int)) = true := okMul_B (by simpa using hb) (by
        rw [← Int.natCast_ediv]; simp; exact Nat.lt_of_le_of_lt (Nat.div_le_self _ _) ha)
      have hr : (a : Int) - (b : Int) * ((a : Int) / (b : Int)) = (a : Int) % (b : Int) := by rw [Int.emod_def]
      have hc : ((a % b : Nat) : Int) = (a : Int) % (b : Int) := Int.natCast_emod a b
      obtain ⟨t', ih⟩ := low_loop n d ds b (a % b) (some (.dat x)) hb (Nat.lt_trans (Nat.mod_lt _ (by omega)) hb)
      refine ⟨t', ?_⟩
      have e : eucN (x :: ds).length a b = eucN ds.length b (a % b) := by rw [List.length_cons]; show (if b = 0 then _ else _) = _; rw [if_neg h0]
      rw [e]
      have step : l__law_lowest_1 [some (.dat (.int n)), some (.dat (.int d)), some (.dat (.int (a : Int))), some (.dat (.int (b : Int))), some (.dat x)] = some (.nx [some (.dat (.int n)), some (.dat (.int d)), some (.dat (.int (b : Int))), some (.dat (.int ((a % b : Nat) : Int))), some (.dat x)]) := by
        simp [l__law_lowest_1, h0, hdiv, hmul, hr, hc]
      show Option.bind (l__law_lowest_1 [some (.dat (.int n)), some (.dat (.int d)), some (.dat (.int (a : Int))), some (.dat (.int (b : Int))), some (.dat x)]) _ = _
      rw [step, Option.bind_some]
      exact ih
theorem low_ok {n d : Int} (hd : 0 < d) (hn : n.natAbs < Big) (hd2 : d.natAbs < Big) (hs : d.natAbs < 2 ^ 900 ∨ n.natAbs < 2 ^ 900) :
    m__law_lowest [.int n, .int d] = some (.dat (.tup [.int (n / ((Nat.gcd n.natAbs d.natAbs : Nat) : Int)), .int (d / ((Nat.gcd n.natAbs d.natAbs : Nat) : Int))])) := by
  obtain ⟨t', ih⟩ := low_loop n d (rngD 0 2000) n.natAbs d.natAbs none hn hd2
  have e : eucN (rngD 0 2000).length n.natAbs d.natAbs = (Nat.gcd n.natAbs d.natAbs, 0) := by
    rw [rngD_length]
    rcases hs with h | h
    · exact eucN_gcd 900 2000 _ _ h (by decide)
    · exact eucN_gcd2 900 2000 _ _ h (by decide)
  rw [e] at ih
  have hg : 0 < Nat.gcd n.natAbs d.natAbs := Nat.gcd_pos_of_pos_right _ (by omega)
  have hg2 : Nat.gcd n.natAbs d.natAbs ≤ d.natAbs := Nat.le_of_dvd (by omega) (Nat.gcd_dvd_right _ _)
  have hdiv : okDiv ((Nat.gcd n.natAbs d.natAbs : Nat) : Int) = true := okDiv_B (by omega) (by simp; omega)
  have ea : (if n < 0 then -n else n) = (n.natAbs : Int) := by split <;> omega
  have eb : d = (d.natAbs : Int) := by omega
  generalize Nat.gcd n.natAbs d.natAbs = g at *
  have ih' : forS (nmB 4) l__law_lowest_1 (rngD 0 2000) [some (.dat (.int n)), some (.dat (.int d)), some (.dat (.int (n.natAbs : Int))), some (.dat (.int d)), none] = some (.nx [some (.dat (.int n)), some (.dat (.int d)), some (.dat (.int (g : Int))), some (.dat (.int 0)), t']) := by
    rw [show some (Sl.dat (.int d)) = some (Sl.dat (.int (d.natAbs : Int))) by rw [← eb]]
    rw [show some (Sl.dat (.int d)) = some (Sl.dat (.int (d.natAbs : Int))) by rw [← eb]] at ih
    exact ih
  simp [m__law_lowest, b__law_lowest, ea, ih', hdiv]
end K77

set_option Elab.async false
set_option linter.all false
set_option maxRecDepth 100000
set_option maxHeartbeats 1000000
namespace K77
open PySem PySem.Spec PyProof.Rows L2 Z
theorem amounts_ok {o : OC} (P : PoolOk o) : ∃ a b o', m__law_amounts o [] = some (.dat (.tup [.int a, .int b]), o') ∧ 1 ≤ a ∧ a ≤ 400 ∧ 1 ≤ b ∧ b ≤ 9 ∧ PoolOk o' := by
  obtain ⟨k1, o1, h1, a1, b1, P1⟩ := take_ok (m := 7) P (by decide) (by decide)
  obtain ⟨k2, o2, h2, a2, b2, P2⟩ := take_ok (m := 12) P1 (by decide) (by decide)
  obtain ⟨k3, o3, h3, a3, b3, P3⟩ := take_ok (m := 40) P2 (by decide) (by decide)
  obtain ⟨d, o4, h4, hd, P4⟩ := pick_ok (ds := [.tup [.int (1 + k1), .int 3], .tup [.int (1 + k2), .int 6], .tup [.int (20 + k3), .int 9], .tup [.int 400, .int 4]]) P3 (by simp) (by simp)
  have e : m__law_amounts o [] = some (.dat d, o4) := by simp [m__law_amounts, b__law_amounts, h1, h2, h3, h4]
  rw [e]
  simp only [List.mem_cons, List.mem_nil_iff, or_false] at hd
  rcases hd with rfl | rfl | rfl | rfl
  · exact ⟨_, _, _, rfl, by omega, by omega, by omega, by omega, P4⟩
  · exact ⟨_, _, _, rfl, by omega, by omega, by omega, by omega, P4⟩
  · exact ⟨_, _, _, rfl, by omega, by omega, by omega, by omega, P4⟩
  · exact ⟨_, _, _, rfl, by omega, by omega, by omega, by omega, P4⟩
/-! ### fractions, pieces -/
abbrev Fr := Int × Int
abbrev Pc := Fr × Fr × Fr
def wrap (b : Bool) (ds : List Z.D) : Z.D := if b = true then .lst ds else .tup ds
@[simp] theorem wrap_f {ds : List Z.D} : wrap false ds = .tup ds := rfl
@[simp] theorem wrap_t {ds : List Z.D} : wrap true ds = .lst ds := rfl
def frD (b : Bool) (f : Fr) : Z.D := wrap b [.int f.1, .int f.2]
def pcD (b : Bool) (p : Pc) : Z.D := wrap b [frD b p.1, frD b p.2.1, frD b p.2.2]
def psD (b : Bool) (ps : List Pc) : Z.D := wrap b (ps.map (pcD b))
def FrOk (f : Fr) : Prop := 0 ≤ f.1 ∧ f.1 ≤ 1000000 ∧ 1 ≤ f.2 ∧ f.2 ≤ 1000 ∧ Nat.gcd f.1.natAbs f.2.natAbs = 1
def PcOk (p : Pc) : Prop := FrOk p.1 ∧ FrOk p.2.1 ∧ FrOk p.2.2 ∧ p.2.2.1 * p.1.2 ≤ p.1.1 * p.2.2.2
def gi (n d : Int) : Int := ((Nat.gcd n.natAbs d.natAbs : Nat) : Int)
def low (n d : Int) : Fr := (n / gi n d, d / gi n d)
theorem Big60 : 2 ^ 900 ≤ Big := by unfold Big; exact Nat.pow_le_pow_right (by decide) (by decide)
theorem p900 : 2 ^ 62 ≤ 2 ^ 900 := Nat.pow_le_pow_right (by decide) (by decide)
theorem low_small {n d : Int} (hd : 0 < d) (hn : n.natAbs < 2 ^ 62) (hd2 : d.natAbs < 2 ^ 62) : m__law_lowest [.int n, .int d] = some (.dat (frD false (low n d))) := by
  have h1 : d.natAbs < 2 ^ 900 := Nat.lt_of_lt_of_le hd2 p900
  have h2 : n.natAbs < 2 ^ 900 := Nat.lt_of_lt_of_le hn p900
  exact low_ok hd (Nat.lt_of_lt_of_le h2 Big60) (Nat.lt_of_lt_of_le h1 Big60) (.inl h1)
theorem gi_pos {n d : Int} (hd : 0 < d) : 0 < gi n d := by
  unfold gi
  have := Nat.gcd_pos_of_pos_right n.natAbs (show 0 < d.natAbs by omega)
  omega
theorem gi_dl {n d : Int} : gi n d ∣ n := by unfold gi; exact Int.ofNat_dvd_left.mpr (Nat.gcd_dvd_left _ _)
theorem gi_dr {n d : Int} : gi n d ∣ d := by unfold gi; exact Int.ofNat_dvd_left.mpr (Nat.gcd_dvd_right _ _)
theorem low_mul {n d : Int} (hd : 0 < d) : n = gi n d * (low n d).1 ∧ d = gi n d * (low n d).2 := by
  unfold low
  exact ⟨(Int.mul_ediv_cancel' gi_dl).symm, (Int.mul_ediv_cancel' gi_dr).symm⟩
theorem low_pos {n d : Int} (hd : 0 < d) : 0 < (low n d).2 := Int.ediv_pos_of_pos_of_dvd hd (Int.le_of_lt (gi_pos hd)) gi_dr
theorem low_nn {n d : Int} (hn : 0 ≤ n) (hd : 0 < d) : 0 ≤ (low n d).1 := Int.ediv_nonneg hn (Int.le_of_lt (gi_pos hd))
theorem low_le {n d : Int} (hn : 0 ≤ n) (hd : 0 < d) : (low n d).1 ≤ n ∧ (low n d).2 ≤ d := ⟨Int.ediv_le_self _ hn, Int.ediv_le_self _ (Int.le_of_lt hd)⟩
theorem low_gcd {n d : Int} (hd : 0 < d) : Nat.gcd (low n d).1.natAbs (low n d).2.natAbs = 1 := by
  have hg := gi_pos (n := n) hd
  have e1 : (low n d).1.natAbs = n.natAbs / Nat.gcd n.natAbs d.natAbs := by
    unfold low
    rw [Int.natAbs_ediv_of_dvd gi_dl]
    rfl
  have e2 : (low n d).2.natAbs = d.natAbs / Nat.gcd n.natAbs d.natAbs := by
    unfold low
    rw [Int.natAbs_ediv_of_dvd gi_dr]
    rfl
  rw [e1, e2, Nat.gcd_div (Nat.gcd_dvd_left _ _) (Nat.gcd_dvd_right _ _)]
  exact Nat.div_self (Nat.gcd_pos_of_pos_right _ (by omega))
theorem low_fr {n d : Int} (h1 : 0 ≤ n) (h2 : n ≤ 1000000) (h3 : 1 ≤ d) (h4 : d ≤ 1000) : FrOk (low n d) := by
  have a := low_le h1 (show 0 < d by omega)
  have b := low_pos (n := n) (show 0 < d by omega)
  exact ⟨low_nn h1 (by omega), by omega, by omega, by omega, low_gcd (by omega)⟩
theorem low_cmp {w h d : Int} (hw : 0 ≤ w) (hh : h ≤ w) (hd : 0 < d) : (low h d).1 * (low w d).2 ≤ (low w d).1 * (low h d).2 := by
  obtain ⟨e1, e2⟩ := low_mul (n := w) hd
  obtain ⟨e3, e4⟩ := low_mul (n := h) hd
  have p1 := gi_pos (n := w) hd
  have p2 := gi_pos (n := h) hd
  generalize (low h d).1 = a at *
  generalize (low h d).2 = b at *
  generalize (low w d).1 = x at *
  generalize (low w d).2 = y at *
  generalize gi w d = g1 at *
  generalize gi h d = g2 at *
  -- h = g2 a, d = g2 b = g1 y, w = g1 x
  have q : (g1 * g2) * (a * y) ≤ (g1 * g2) * (x * b) := by
    have l : (g1 * g2) * (a * y) = h * d := by
      calc (g1 * g2) * (a * y) = (g2 * a) * (g1 * y) := by ac_rfl
        _ = h * d := by rw [← e3, ← e2]
    have r : (g1 * g2) * (x * b) = w * d := by
      calc (g1 * g2) * (x * b) = (g1 * x) * (g2 * b) := by ac_rfl
        _ = w * d := by rw [← e1, ← e4]
    rw [l, r]
    exact Int.mul_le_mul_of_nonneg_right hh (Int.le_of_lt hd)
  exact Int.le_of_mul_le_mul_left q (Int.mul_pos p1 p2)
theorem hp6 : powG (.int 10) (.int 6) = some (.dat (.int 1000000)) := by unfold powG; simp
theorem one_fr {n : Int} (h : 0 ≤ n) (h2 : n ≤ 1000000) : FrOk (n, 1) := ⟨h, h2, by show (1 : Int) ≤ 1; decide, by show (1 : Int) ≤ 1000; decide, by simp⟩
theorem piece_ok {o : OC} {kind : Int} (P : PoolOk o) : ∃ p o', m__law_piece o [.int kind] = some (.dat (pcD false p), o') ∧ PcOk p ∧ PoolOk o' := by
  by_cases c0 : kind = 0
  · subst c0
    obtain ⟨k1, o1, h1, a1, b1, P1⟩ := take_ok (m := 9) P (by decide) (by decide)
    obtain ⟨k2, o2, h2, a2, b2, P2⟩ := take_ok (m := 4) P1 (by decide) (by decide)
    obtain ⟨k3, o3, h3, a3, b3, P3⟩ := take_ok (m := 2) P2 (by decide) (by decide)
    by_cases c : k3 = 0
    · subst c
      obtain ⟨k4, o4, h4, a4, b4, P4⟩ := take_ok (m := 1 + k1 + 1) P3 (by omega) (by omega)
      exact ⟨((1 + k1, 1), (k2, 1), (k4, 1)), o4, by simp [m__law_piece, b__law_piece, h1, h2, h3, h4, pcD, frD], ⟨one_fr (by omega) (by omega), one_fr (by omega) (by omega), one_fr (by omega) (by omega), by show k4 * 1 ≤ (1 + k1) * 1; omega⟩, P4⟩
    · exact ⟨((1 + k1, 1), (k2, 1), (0, 1)), o3, by simp [m__law_piece, b__law_piece, h1, h2, h3, c, pcD, frD], ⟨one_fr (by omega) (by omega), one_fr (by omega) (by omega), one_fr (by omega) (by omega), by show (0 : Int) * 1 ≤ (1 + k1) * 1; omega⟩, P3⟩
  · by_cases c1 : kind = 1
    · subst c1
      obtain ⟨k1, o1, h1, a1, b1, P1⟩ := take_ok (m := 12) P (by decide) (by decide)
      obtain ⟨k2, o2, h2, a2, b2, P2⟩ := take_ok (m := 40) P1 (by decide) (by decide)
      obtain ⟨k3, o3, h3, a3, b3, P3⟩ := take_ok (m := k2 + 1) P2 (by omega) (by omega)
      obtain ⟨k4, o4, h4, a4, b4, P4⟩ := take_ok (m := 20) P3 (by decide) (by decide)
      obtain ⟨k5, o5, h5, a5, b5, P5⟩ := take_ok (m := 12) P4 (by decide) (by decide)
      have l1 := low_small (n := k4) (d := 1 + k5) (by omega) (by omega) (by omega)
      have l2 := low_small (n := k2) (d := 1 + k1) (by omega) (by omega) (by omega)
      have l3 := low_small (n := k3) (d := 1 + k1) (by omega) (by omega) (by omega)
      exact ⟨(low k2 (1 + k1), low k4 (1 + k5), low k3 (1 + k1)), o5, by simp [m__law_piece, b__law_piece, h1, h2, h3, h4, h5, l1, l2, l3, pcD],
        ⟨low_fr (by omega) (by omega) (by omega) (by omega), low_fr (by omega) (by omega) (by omega) (by omega), low_fr (by omega) (by omega) (by omega) (by omega), low_cmp (by omega) (by omega) (by omega)⟩, P5⟩
    · obtain ⟨k1, o1, h1, a1, b1, P1⟩ := take_ok (m := 1000) P (by decide) (by decide)
      obtain ⟨k2, o2, h2, a2, b2, P2⟩ := take_ok (m := 1000001) P1 (by decide) (by decide)
      obtain ⟨k3, o3, h3, a3, b3, P3⟩ := take_ok (m := k2 + 1) P2 (by omega) (by omega)
      obtain ⟨k4, o4, h4, a4, b4, P4⟩ := take_ok (m := 1000001) P3 (by decide) (by decide)
      obtain ⟨k5, o5, h5, a5, b5, P5⟩ := take_ok (m := 1000) P4 (by decide) (by decide)
      have l1 := low_small (n := k4) (d := 1 + k5) (by omega) (by omega) (by omega)
      have l2 := low_small (n := k2) (d := 1 + k1) (by omega) (by omega) (by omega)
      have l3 := low_small (n := k3) (d := 1 + k1) (by omega) (by omega) (by omega)
      exact ⟨(low k2 (1 + k1), low k4 (1 + k5), low k3 (1 + k1)), o5, by simp [m__law_piece, b__law_piece, c0, c1, hp6, h1, h2, h3, h4, h5, l1, l2, l3, pcD],
        ⟨low_fr (by omega) (by omega) (by omega) (by omega), low_fr (by omega) (by omega) (by omega) (by omega), low_fr (by omega) (by omega) (by omega) (by omega), low_cmp (by omega) (by omega) (by omega)⟩, P5⟩
end K77

set_option Elab.async false
set_option linter.all false
set_option maxRecDepth 100000
set_option maxHeartbeats 1000000
namespace K77
open PySem PySem.Spec PyProof.Rows L2 Z
theorem pieces_ok {o : OC} {m : Int} (P : PoolOk o) (hm : 1 ≤ m) (hm2 : m ≤ 400) : ∃ ps o', m__law_pieces o [.int m] = some (.dat (psD false ps), o') ∧ (ps.length : Int) = m ∧ (∀ p ∈ ps, PcOk p) ∧ PoolOk o' := by
  obtain ⟨k1, o1, h1, a1, b1, P1⟩ := take_ok (m := 3) P (by decide) (by decide)
  obtain ⟨k2, o2, h2, a2, b2, P2⟩ := take_ok (m := 3) P1 (by decide) (by decide)
  obtain ⟨env', h3, ps, o3, y1, y2, he, hl, hp, P3⟩ := forS_nx (b := nmB 5) (f := l__law_pieces_1)
    (fun ds env => ∃ ps o y1 y2, env = [some (.par o), some (.dat (.int m)), some (.dat (.int k1)), some (.dat (.int k2)), some (.dat (psD false ps)), y1, y2] ∧ (ps.length : Int) + ds.length = m ∧ (∀ p ∈ ps, PcOk p) ∧ PoolOk o)
    (by
      rintro d ds env ⟨ps, o, y1, y2, rfl, hl, hp, P⟩
      obtain ⟨p, o3, h3, hp3, P3⟩ := piece_ok (kind := k1) P
      have hlen : ps.length + 1 ≤ 16777216 := by simp only [List.length_cons] at hl; omega
      have fin : ∀ p' o', PcOk p' → PoolOk o' → l__law_pieces_1 [some (.par o), some (.dat (.int m)), some (.dat (.int k1)), some (.dat (.int k2)), some (.dat (psD false ps)), some (.dat d), y2] = some (.nx [some (.par o'), some (.dat (.int m)), some (.dat (.int k1)), some (.dat (.int k2)), some (.dat (psD false (ps ++ [p']))), some (.dat d), some (.dat (pcD false p'))]) →
          ∃ e1 e2, nmB 5 d [some (.par o), some (.dat (.int m)), some (.dat (.int k1)), some (.dat (.int k2)), some (.dat (psD false ps)), y1, y2] = some e1 ∧ l__law_pieces_1 e1 = some (.nx e2) ∧ ∃ ps o y1 y2, e2 = [some (.par o), some (.dat (.int m)), some (.dat (.int k1)), some (.dat (.int k2)), some (.dat (psD false ps)), y1, y2] ∧ (ps.length : Int) + ds.length = m ∧ (∀ p ∈ ps, PcOk p) ∧ PoolOk o := by
        intro p' o' q1 q2 h
        refine ⟨_, _, rfl, h, ps ++ [p'], o', _, _, rfl, by simp only [List.length_cons, List.length_append, List.length_nil] at hl ⊢; omega, fun p hp' => ?_, q2⟩
        rcases List.mem_append.mp hp' with z | z
        · exact hp p z
        · rw [List.mem_singleton.mp z]; exact q1
      by_cases c : k2 = 0
      · obtain ⟨k4, o4, h4, a4, b4, P4⟩ := take_ok (m := 2) P3 (by decide) (by decide)
        by_cases c4 : k4 = 0
        · refine fin (p.1, (0, 1), p.2.2) o4 ⟨hp3.1, one_fr (by decide) (by decide), hp3.2.2.1, hp3.2.2.2⟩ P4 ?_
          simp [l__law_pieces_1, h3, h4, c, c4, pcD, psD, hlen, frD]
        · refine fin p o4 hp3 P4 ?_
          simp [l__law_pieces_1, h3, h4, c, c4, pcD, psD, hlen, frD]
      · refine fin p o3 hp3 P3 ?_
        simp [l__law_pieces_1, h3, c, pcD, psD, hlen, frD])
    (rngD 0 m.toNat) [some (.par o2), some (.dat (.int m)), some (.dat (.int k1)), some (.dat (.int k2)), some (.dat (psD false [])), none, none] ⟨[], o2, _, _, rfl, by rw [rngD_length]; simp; omega, (fun p hp => nomatch hp), P2⟩
  subst he
  refine ⟨ps, o3, ?_, by simpa using hl, hp, P3⟩
  have hm3 : m.natAbs < 2 ^ 61 := by omega
  have h3' : forS (nmB 5) l__law_pieces_1 (rngD 0 m.toNat) [some (.par o2), some (.dat (.int m)), some (.dat (.int k1)), some (.dat (.int k2)), some (.dat (.tup [])), none, none] = _ := h3
  have hm4 : m.natAbs < 2305843009213693952 := hm3
  simp [m__law_pieces, b__law_pieces, h1, h2, h3', hm4]
theorem sum_ok {a b : Fr} (ha : FrOk a) (hb : FrOk b) : m__law_sum [frD false a, frD false b] = some (.dat (frD false (low (a.1 * b.2 + b.1 * a.2) (a.2 * b.2)))) ∧ 0 ≤ (low (a.1 * b.2 + b.1 * a.2) (a.2 * b.2)).1 ∧ 1 ≤ (low (a.1 * b.2 + b.1 * a.2) (a.2 * b.2)).2 ∧ Nat.gcd (low (a.1 * b.2 + b.1 * a.2) (a.2 * b.2)).1.natAbs (low (a.1 * b.2 + b.1 * a.2) (a.2 * b.2)).2.natAbs = 1 := by
  obtain ⟨a1, a2, a3, a4, _⟩ := ha
  obtain ⟨b1, b2, b3, b4, _⟩ := hb
  have q1 : 0 ≤ a.1 * b.2 ∧ a.1 * b.2 ≤ 1000000 * 1000 := ⟨Int.mul_nonneg a1 (by omega), Int.mul_le_mul a2 b4 (by omega) (by decide)⟩
  have q2 : 0 ≤ b.1 * a.2 ∧ b.1 * a.2 ≤ 1000000 * 1000 := ⟨Int.mul_nonneg b1 (by omega), Int.mul_le_mul b2 a4 (by omega) (by decide)⟩
  have q3 : 0 < a.2 * b.2 ∧ a.2 * b.2 ≤ 1000 * 1000 := ⟨Int.mul_pos (by omega) (by omega), Int.mul_le_mul a4 b4 (by omega) (by decide)⟩
  have l := low_small (n := a.1 * b.2 + b.1 * a.2) (d := a.2 * b.2) q3.1 (by omega) (by omega)
  have m1 : okMul a.1 b.2 = true := okMul_l (by omega)
  have m2 : okMul b.1 a.2 = true := okMul_l (by omega)
  have m3 : okMul a.2 b.2 = true := okMul_l (by omega)
  exact ⟨by simp [m__law_sum, b__law_sum, frD, m1, m2, m3, l], low_nn (by omega) q3.1, by have := low_pos (n := a.1 * b.2 + b.1 * a.2) q3.1; omega, low_gcd q3.1⟩
theorem mem_cut {α : Type} {xs : List α} {lo hi : Option Int} {x : α} (h : x ∈ cutD xs lo hi) : x ∈ xs := List.mem_of_mem_drop (List.mem_of_mem_take h)
theorem room_ok {o : OC} {ps : List Pc} {m : Int} (P : PoolOk o) (hps : ∀ p ∈ ps, PcOk p) (h0 : ps ≠ []) (hl : ps.length ≤ 400) (hm : 1 ≤ m) (hm2 : m ≤ 9) : ∃ r o', m__law_room o [psD false ps, .int m] = some (.dat (frD false r), o') ∧ FrOk r ∧ 1 ≤ r.1 ∧ PoolOk o' := by
  have hpos : 0 < ps.length := List.length_pos_iff.mpr h0
  obtain ⟨k1, o1, h1, a1, b1, P1⟩ := take_ok (m := (ps.length : Int)) P (by omega) (by omega)
  obtain ⟨k2, o2, h2, a2, b2, P2⟩ := take_ok (m := m) P1 (by omega) (by omega)
  have hmem : ∀ d ∈ cutD (ps.map (pcD false)) (some k1) (some (k1 + 1 + k2)), ∃ p, PcOk p ∧ d = pcD false p := fun d hd => by
    obtain ⟨p, hp, rfl⟩ := List.mem_map.mp (mem_cut hd)
    exact ⟨p, hps p hp, rfl⟩
  obtain ⟨env', h3, _, r, y1, y2, he, hr⟩ := forS_nx (b := nmB 5) (f := l__law_room_1)
    (fun ds env => (∀ d ∈ ds, ∃ p, PcOk p ∧ d = pcD false p) ∧ ∃ r y1 y2, env = [some (.par o2), some (.dat (psD false ps)), some (.dat (.int m)), some (.dat (.int k1)), some (.dat (frD false r)), y1, y2, none] ∧ FrOk r)
    (by
      rintro d ds env ⟨hds, r, y1, y2, rfl, hr⟩
      obtain ⟨p, hp, rfl⟩ := hds d (List.mem_cons_self ..)
      obtain ⟨s1, s2, s3, s4⟩ := sum_ok hr hp.1
      generalize low (r.1 * p.1.2 + p.1.1 * r.2) (r.2 * p.1.2) = q at *
      refine ⟨_, _, rfl, ?_, fun d hd => hds d (List.mem_cons_of_mem _ hd), if q.1 ≤ 1000000 ∧ q.2 ≤ 1000 then q else r, some (.dat (pcD false p)), some (.dat (frD false q)), rfl, ?_⟩
      · by_cases c1 : q.1 ≤ 1000000
        · by_cases c2 : q.2 ≤ 1000
          · simp only [frD, wrap_f] at s1
            simp [l__law_room_1, pcD, frD, s1, c1, c2, hp6]
          · simp only [frD, wrap_f] at s1
            simp [l__law_room_1, pcD, frD, s1, c1, c2, hp6]
        · simp only [frD, wrap_f] at s1
          simp [l__law_room_1, pcD, frD, s1, c1, hp6]
      · split
        · rename_i c; exact ⟨s2, c.1, s3, c.2, s4⟩
        · exact hr)
    _ [some (.par o2), some (.dat (psD false ps)), some (.dat (.int m)), some (.dat (.int k1)), some (.dat (frD false (0, 1))), none, none, none] ⟨hmem, _, _, _, rfl, one_fr (by decide) (by decide)⟩
  subst he
  obtain ⟨k3, o3, h4, a3, b3, P3⟩ := take_ok (m := 4) P2 (by decide) (by decide)
  simp only [frD, wrap_f, psD] at h3
  obtain ⟨r1, r2, r3, r4, r5⟩ := hr
  have e0 : psD false ps = .tup (ps.map (pcD false)) := rfl
  have hml : okMul 2 r.1 = true := okMul_l (by decide)
  have hdr : okDiv r.2 = true := okDiv_of (by omega) (by omega)
  have one := one_fr (n := 1) (by decide) (by decide)
  by_cases c0 : k3 = 0
  · subst c0
    obtain ⟨k4, o4, h5, a4, b4, P4⟩ := take_ok (m := 3) P3 (by decide) (by decide)
    have q1 : 0 ≤ r.1 / r.2 := Int.ediv_nonneg r1 (by omega)
    by_cases d0 : r.1 / r.2 + k4 = 0
    · exact ⟨(1, 1), o4, by simp [m__law_room, b__law_room, e0, h1, h2, h3, h4, h5, hdr, hp6, d0, frD], one, by decide, P4⟩
    · by_cases d1 : 1000000 < r.1 / r.2 + k4
      · exact ⟨(1, 1), o4, by simp [m__law_room, b__law_room, e0, h1, h2, h3, h4, h5, hdr, hp6, d0, d1, frD], one, by decide, P4⟩
      · exact ⟨(r.1 / r.2 + k4, 1), o4, by simp [m__law_room, b__law_room, e0, h1, h2, h3, h4, h5, hdr, hp6, d0, d1, frD], one_fr (by omega) (by omega), by show 1 ≤ r.1 / r.2 + k4; omega, P4⟩
  · by_cases c1 : k3 = 1 ∧ r.2 = 1
    · obtain ⟨rfl, c2⟩ := c1
      have l := low_small (n := 2 * r.1 + 1) (d := 2) (by decide) (by omega) (by decide)
      have l1 := low_nn (n := 2 * r.1 + 1) (d := 2) (by omega) (by decide)
      have l2 := low_le (n := 2 * r.1 + 1) (d := 2) (by omega) (by decide)
      have l3 := low_pos (n := 2 * r.1 + 1) (d := 2) (by decide)
      have l4 := low_gcd (n := 2 * r.1 + 1) (d := 2) (by decide)
      generalize low (2 * r.1 + 1) 2 = x at *
      simp only [frD, wrap_f] at l
      by_cases d0 : x.1 = 0
      · exact ⟨(1, 1), o3, by simp [m__law_room, b__law_room, e0, h1, h2, h3, h4, hml, l, c2, hp6, d0, frD], one, by decide, P3⟩
      · by_cases d1 : 1000000 < x.1
        · exact ⟨(1, 1), o3, by simp [m__law_room, b__law_room, e0, h1, h2, h3, h4, hml, l, c2, hp6, d0, d1, frD], one, by decide, P3⟩
        · exact ⟨x, o3, by simp [m__law_room, b__law_room, e0, h1, h2, h3, h4, hml, l, c2, hp6, d0, d1, frD], ⟨l1, by omega, by omega, by omega, l4⟩, by omega, P3⟩
    · by_cases d0 : r.1 = 0
      · refine ⟨(1, 1), o3, ?_, one, by decide, P3⟩
        by_cases c2 : k3 = 1
        · have c3 : ¬ r.2 = 1 := fun z => c1 ⟨c2, z⟩
          subst c2
          simp [m__law_room, b__law_room, e0, h1, h2, h3, h4, c3, hp6, d0, frD]
        · simp [m__law_room, b__law_room, e0, h1, h2, h3, h4, c0, c2, hp6, d0, frD]
      · refine ⟨r, o3, ?_, ⟨r1, r2, r3, r4, r5⟩, by omega, P3⟩
        have d1 : ¬ 1000000 < r.1 := by omega
        by_cases c2 : k3 = 1
        · have c3 : ¬ r.2 = 1 := fun z => c1 ⟨c2, z⟩
          subst c2
          simp [m__law_room, b__law_room, e0, h1, h2, h3, h4, c3, hp6, d0, d1, frD]
        · simp [m__law_room, b__law_room, e0, h1, h2, h3, h4, c0, c2, hp6, d0, d1, frD]
/-! ### listed -/
theorem listed_int {n : Nat} {i : Int} : m__law_listed (n + 1) [.int i] = some (.dat (.int i)) := by
  unfold m__law_listed
  simp [b__law_listed, kindD, okTy, isTy]
theorem listed_tup {n : Nat} {ds : List Z.D} (r : Z.D → Z.D) (hl : ds.length ≤ 16777215) (h : ∀ d ∈ ds, ∃ t, m__law_listed n [d] = some t ∧ (fz t.rv) = .dat (r d)) : m__law_listed (n + 1) [.tup ds] = some (.own (.lst (ds.map r))) := by
  have key := lcS_map (fi := seqI (vS 0)) (i := 1) (f := e__law_listed_1 (m__law_listed n)) (env := [some (.dat (.tup ds)), none]) (env1 := [some (.dat (.tup ds)), none]) (ds := ds) r (by simp) hl (.inl rfl) (by
    intro d hd
    obtain ⟨t, h1, h2⟩ := h d hd
    exact ⟨t.rv, by simp [e__law_listed_1, h1], by rw [h2]; rfl⟩)
  unfold m__law_listed
  rw [s_runP]
  show Option.bind (b__law_listed (m__law_listed n) [some (.dat (.tup ds)), none]) fin = _
  unfold b__law_listed
  rw [s_seq, s_iff]
  simp [-s_lcS, kindD, okTy, isTy, key]
theorem listed_fr {n : Nat} {f : Fr} : m__law_listed (n + 2) [frD false f] = some (.own (.lst [.int f.1, .int f.2])) := by
  have := listed_tup (n := n + 1) (ds := [.int f.1, .int f.2]) (fun d => d) (by simp) (fun d hd => by
    simp only [List.mem_cons, List.mem_nil_iff, or_false] at hd
    rcases hd with rfl | rfl
    · exact ⟨_, listed_int, rfl⟩
    · exact ⟨_, listed_int, rfl⟩)
  exact this
theorem listed_pc {n : Nat} {p : Pc} : m__law_listed (n + 3) [pcD false p] = some (.own (.lst [frD true p.1, frD true p.2.1, frD true p.2.2])) := by
  have := listed_tup (n := n + 2) (ds := [frD false p.1, frD false p.2.1, frD false p.2.2]) (fun d => match d with | .tup x => .lst x | d => d) (by simp) (fun d hd => by
    simp only [List.mem_cons, List.mem_nil_iff, or_false] at hd
    rcases hd with rfl | rfl | rfl
    · exact ⟨_, listed_fr, rfl⟩
    · exact ⟨_, listed_fr, rfl⟩
    · exact ⟨_, listed_fr, rfl⟩)
  exact this
theorem listed_ps {n : Nat} {ps : List Pc} (hl : ps.length ≤ 400) : m__law_listed (n + 4) [psD false ps] = some (.own (.lst (ps.map (pcD true)))) := by
  have := listed_tup (n := n + 3) (ds := ps.map (pcD false)) (fun d => match d with | .tup [.tup a, .tup b, .tup c] => .lst [.lst a, .lst b, .lst c] | d => d) (by simp; omega) (fun d hd => by
    obtain ⟨p, _, rfl⟩ := List.mem_map.mp hd
    exact ⟨_, listed_pc, rfl⟩)
  rw [List.map_map] at this
  exact this
theorem given_ok {o : OC} {ps : List Pc} (P : PoolOk o) (hl : ps.length ≤ 400) : ∃ b t o', m__law_given o [psD false ps] = some (t, o') ∧ fz t.rv = .dat (psD b ps) ∧ PoolOk o' := by
  obtain ⟨k1, o1, h1, a1, b1, P1⟩ := take_ok (m := 3) P (by decide) (by decide)
  by_cases c : k1 = 0
  · subst c
    exact ⟨true, .own (.lst (ps.map (pcD true))), o1, by simp [m__law_given, b__law_given, h1, listed_ps (n := 1) hl], rfl, P1⟩
  · exact ⟨false, .dat (psD false ps), o1, by simp [m__law_given, b__law_given, h1, c], rfl, P1⟩
end K77

set_option Elab.async false
set_option linter.all false
set_option maxRecDepth 100000
set_option maxHeartbeats 1000000
namespace K77
open PySem PySem.Spec PyProof.Rows L2 Z
section
variable {gb : Fb} {t : Ft} {f : Fe} {vs : List Nat} {d : Z.D} {ds acc : List Z.D} {env : En}
@[simp] theorem s_lcGo0 : lcGo gb t f vs [] acc env = some (acc, wipeE env vs) := rfl
@[simp] theorem s_lcGo1 : lcGo gb t f vs (d :: ds) acc env = (gb d (wipeE env vs)).bind fun e1 => (t e1).bind fun p => if p.1 = true then (f p.2).bind fun q => (kp q.2 (fz q.1)).bind fun r => lcGo gb t f vs ds (acc ++ [r.1]) r.2 else lcGo gb t f vs ds acc p.2 := rfl
@[simp] theorem s_bls0 : blsOf [] = some [] := rfl
@[simp] theorem s_bls1 {b : Bool} : blsOf (.bl b :: ds) = (blsOf ds).bind fun bs => some (b :: bs) := rfl
end
theorem fraction_ok {b : Bool} {f : Fr} (h : FrOk f) : m_is_fraction [frD b f] = some (.dat (.bl true)) := by
  obtain ⟨h1, h2, h3, h4, h5⟩ := h
  have h6 : 0 < f.2 := by omega
  cases b <;> simp [m_is_fraction, b_is_fraction, e_is_fraction_1, frD, kindD, okTy, isTy, tysOf, h6, h5]
theorem part_ok {b : Bool} {f : Fr} (h : FrOk f) : m_is_part [frD b f] = some (.dat (.bl true)) := by
  have hf := fraction_ok (b := b) h
  obtain ⟨h1, h2, h3, h4, h5⟩ := h
  cases b <;> (simp only [frD, wrap_f, wrap_t] at hf; simp [m_is_part, b_is_part, frD, hf, h1, h2, h4])
theorem piece_is {b : Bool} {p : Pc} (h : PcOk p) : m_is_piece [pcD b p] = some (.dat (.bl true)) := by
  obtain ⟨h1, h2, h3, h4⟩ := h
  have p1 := part_ok (b := b) h1
  have p2 := part_ok (b := b) h2
  have p3 := part_ok (b := b) h3
  have m1 : okMul p.2.2.1 p.1.2 = true := okMul_l (by have := h3.2.1; have := h3.1; omega)
  have m2 : okMul p.1.1 p.2.2.2 = true := okMul_l (by have := h1.2.1; have := h1.1; omega)
  cases b <;> (simp only [frD, wrap_f, wrap_t] at p1 p2 p3; simp [m_is_piece, b_is_piece, e_is_piece_1, pcD, frD, kindD, okTy, isTy, tysOf, p1, p2, p3, m1, m2, h4])
theorem enumD_mem {ds : List Z.D} {e : Z.D} (h : e ∈ enumD ds) : ∃ i d, d ∈ ds ∧ e = .tup [.int i, d] := by
  obtain ⟨i, hi⟩ := List.mem_iff_getElem?.mp h
  obtain ⟨d, h1, h2⟩ := enumD_get hi
  exact ⟨_, d, List.mem_of_getElem? h1, h2⟩
theorem check_ok {b : Bool} {ps : List Pc} (hp : ∀ p ∈ ps, PcOk p) (h1 : 1 ≤ ps.length) (h2 : ps.length ≤ 400) : m_check_pieces [psD b ps] = some (.dat .non) := by
  obtain ⟨env', h3, _, y1, y2, he⟩ := forS_nx (b := tupB 2 (consB (nmB 1) (consB (nmB 2) nilB))) (f := l_check_pieces_1)
    (fun ds env => (∀ d ∈ ds, ∃ i p, PcOk p ∧ d = .tup [.int i, pcD b p]) ∧ ∃ y1 y2, env = [some (.dat (psD b ps)), y1, y2])
    (by
      rintro d ds env ⟨hd, y1, y2, rfl⟩
      obtain ⟨i, p, hp, rfl⟩ := hd d (List.mem_cons_self ..)
      exact ⟨_, _, rfl, by simp [l_check_pieces_1, piece_is hp]; exact ⟨rfl, rfl⟩, fun d h => hd d (List.mem_cons_of_mem _ h), _, _, rfl⟩)
    (enumD (ps.map (pcD b))) [some (.dat (psD b ps)), none, none] ⟨fun d hd => by
      obtain ⟨i, d', hd', rfl⟩ := enumD_mem hd
      obtain ⟨p, hp', rfl⟩ := List.mem_map.mp hd'
      exact ⟨i, p, hp p hp', rfl⟩, none, none, rfl⟩
  subst he
  have g1 : (1 : Int) ≤ (ps.length : Int) := by omega
  have g2 : (ps.length : Int) ≤ 400 := by omega
  cases b <;> (simp only [psD, wrap_f, wrap_t] at h3; simp [m_check_pieces, b_check_pieces, psD, kindD, okTy, isTy, tysOf, g1, g2, h3])
/-! ### the common bottom -/
def LL : Nat := (List.range 1000).foldl (fun a i => Nat.lcm a (i + 1)) 1
theorem fold_lcm_dvd : ∀ (l : List Nat) (a : Nat), a ∣ l.foldl (fun a i => Nat.lcm a (i + 1)) a ∧ ∀ i ∈ l, i + 1 ∣ l.foldl (fun a i => Nat.lcm a (i + 1)) a
  | [], a => ⟨Nat.dvd_refl _, fun i h => nomatch h⟩
  | x :: l, a => by
    obtain ⟨h1, h2⟩ := fold_lcm_dvd l (Nat.lcm a (x + 1))
    rw [List.foldl_cons]
    refine ⟨Nat.dvd_trans (Nat.dvd_lcm_left _ _) h1, fun i hi => ?_⟩
    rcases List.mem_cons.mp hi with rfl | hi
    · exact Nat.dvd_trans (Nat.dvd_lcm_right _ _) h1
    · exact h2 i hi
theorem dvd_LL {d : Nat} (h1 : 1 ≤ d) (h2 : d ≤ 1000) : d ∣ LL := by
  have := (fold_lcm_dvd (List.range 1000) 1).2 (d - 1) (List.mem_range.mpr (by omega))
  rw [Nat.sub_add_cancel h1] at this
  exact this
theorem LL_lt : LL < 2 ^ 1500 ∧ 0 < LL := by decide +kernel
theorem big1500 : 2 ^ 1500 ≤ Big := by unfold Big; exact Nat.pow_le_pow_right (by decide) (by decide)
def CmOk (c : Int) : Prop := 0 < c ∧ c.natAbs ∣ LL
theorem CmOk.lt {c : Int} (h : CmOk c) : c.natAbs < 2 ^ 1500 := Nat.lt_of_le_of_lt (Nat.le_of_dvd LL_lt.2 h.2) LL_lt.1
theorem CmOk.big {c : Int} (h : CmOk c) : c.natAbs < Big := Nat.lt_of_lt_of_le h.lt big1500
def lcI (c d : Int) : Int := ((Nat.lcm c.natAbs d.natAbs : Nat) : Int)
theorem lcI_ok {c d : Int} (h : CmOk c) (h1 : 1 ≤ d) (h2 : d ≤ 1000) : CmOk (lcI c d) := by
  have e : (lcI c d).natAbs = Nat.lcm c.natAbs d.natAbs := by unfold lcI; simp
  refine ⟨?_, ?_⟩
  · have := Nat.lcm_pos (show 0 < c.natAbs by have := h.1; omega) (show 0 < d.natAbs by omega)
    unfold lcI; omega
  · rw [e]
    exact Nat.lcm_dvd h.2 (dvd_LL (by omega) (by omega))
def comP (c : Int) (p : Pc) : Int := lcI (lcI (lcI c p.1.2) p.2.1.2) p.2.2.2
theorem comP_ok {c : Int} {p : Pc} (h : CmOk c) (hp : PcOk p) : CmOk (comP c p) :=
  lcI_ok (lcI_ok (lcI_ok h hp.1.2.2.1 hp.1.2.2.2.1) hp.2.1.2.2.1 hp.2.1.2.2.2.1) hp.2.2.1.2.2.1 hp.2.2.1.2.2.2.1
def com (c : Int) (ps : List Pc) : Int := ps.foldl comP c
theorem com_ok : ∀ {ps : List Pc} {c : Int}, CmOk c → (∀ p ∈ ps, PcOk p) → CmOk (com c ps)
  | [], c, h, _ => h
  | p :: ps, c, h, hp => com_ok (ps := ps) (comP_ok h (hp p (List.mem_cons_self ..))) fun q hq => hp q (List.mem_cons_of_mem _ hq)
theorem CmOk.of {d : Int} (h1 : 1 ≤ d) (h2 : d ≤ 1000) : CmOk d := ⟨by omega, dvd_LL (by omega) (by omega)⟩
/-- what a slot may hold that nobody reads -/
def Scr (y : Option Sl) : Prop := y = none ∨ ∃ d, y = some (.dat d)
theorem Scr.slf {y : Option Sl} (h : Scr y) : isSlf y = false := by rcases h with rfl | ⟨d, rfl⟩ <;> rfl
theorem Scr.dat {d : Z.D} : Scr (some (.dat d)) := .inr ⟨d, rfl⟩
def sc (C : Int) (f : Fr) : Int := f.1 * (C / f.2)
abbrev T3 := Int × Int × Int
def t3D (a : T3) : Z.D := .tup [.int a.1, .int a.2.1, .int a.2.2]
def addT (C : Int) (a : T3) (p : Pc) : T3 := (a.1 + sc C p.1, a.2.1 + sc C p.2.1, a.2.2 + sc C p.2.2)
/-- the sums, from a on -/
def sums (C : Int) : T3 → List Pc → List T3
  | a, [] => [a]
  | a, p :: ps => a :: sums C (addT C a p) ps
theorem sums_len (C : Int) : ∀ (ps : List Pc) (a : T3), (sums C a ps).length = ps.length + 1
  | [], _ => rfl
  | p :: ps, a => by unfold sums; rw [List.length_cons, sums_len C ps, List.length_cons]
/-! ### the law's own reckoning -/
theorem divisor_ok {d c : Int} (h1 : 1 ≤ d) (h2 : d ≤ 1000) (h : CmOk c) : m__law_divisor [.int d, .int c] = some (.dat (.int (gi d c))) := by
  have l := low_ok (n := d) (d := c) h.1 (Nat.lt_of_lt_of_le (Nat.lt_of_lt_of_le (show d.natAbs < 2 ^ 62 by omega) p900) Big60) h.big (.inr (Nat.lt_of_lt_of_le (show d.natAbs < 2 ^ 62 by omega) p900))
  have hg : 0 < gi d c := gi_pos h.1
  have q1 : 0 < d / gi d c := Int.ediv_pos_of_pos_of_dvd (by omega) (Int.le_of_lt hg) gi_dl
  have q2 : d / gi d c ≤ d := Int.ediv_le_self _ (by omega)
  have q3 : okDiv (d / gi d c) = true := okDiv_of q1 (by omega)
  have q4 : d / (d / gi d c) = gi d c := by
    obtain ⟨e1, _⟩ := low_mul (n := d) h.1
    change d = gi d c * (d / gi d c) at e1
    generalize gi d c = g at *
    generalize d / g = x at *
    rw [e1]
    exact Int.mul_ediv_cancel _ (by omega)
  have q5 : 0 < d := by omega
  change m__law_lowest [.int d, .int c] = some (.dat (.tup [.int (d / gi d c), .int (c / gi d c)])) at l
  simp [m__law_divisor, b__law_divisor, q5, l, q3, q4]
theorem lcI_law {c d : Int} (h1 : 1 ≤ d) (h : CmOk c) : c * (d / gi d c) = lcI c d := by
  have hc : c = (c.natAbs : Int) := by have := h.1; omega
  have hd : d = (d.natAbs : Int) := by omega
  unfold lcI gi
  rw [hc, hd]
  simp only [Int.natAbs_natCast]
  rw [← Int.natCast_ediv, ← Int.natCast_mul]
  congr 1
  unfold Nat.lcm
  rw [Nat.gcd_comm d.natAbs, Nat.mul_div_assoc _ (Nat.gcd_dvd_right _ _)]
end K77

set_option Elab.async false
set_option linter.all false
set_option maxRecDepth 100000
set_option maxHeartbeats 1000000
namespace K77
open PySem PySem.Spec PyProof.Rows L2 Z
section
variable {gb : Fb} {f : Fs} {d : Z.D} {ds : List Z.D} {env : En}
@[simp] theorem s_for0 : forS gb f [] env = some (.nx env) := rfl
theorem s_for1 : forS gb f (d :: ds) env = (gb d env).bind fun e1 => (f e1).bind fun o => match o with
    | .nx e => forS gb f ds e
    | .ct e => forS gb f ds e
    | .bk e => some (.nx e)
    | .rt r e => some (.rt r e) := rfl
end
@[simp] theorem at_last {α : Type} {x : α} {xs : List α} : atI (xs ++ [x]) (-1) = some x := atI_last xs x
theorem gi_le {d c : Int} (h1 : 1 ≤ d) (hc : 0 < c) : 0 < gi d c ∧ gi d c ≤ d := by
  refine ⟨gi_pos hc, ?_⟩
  have := Nat.le_of_dvd (show 0 < d.natAbs by omega) (Nat.gcd_dvd_left d.natAbs c.natAbs)
  unfold gi; omega
theorem sc1 {c d : Int} (h1 : 1 ≤ d) (h2 : d ≤ 1000) (h : CmOk c) : m__law_divisor [.int d, .int c] = some (.dat (.int (gi d c))) ∧ okDiv (gi d c) = true ∧ okMul c (d / gi d c) = true ∧ c * (d / gi d c) = lcI c d := by
  obtain ⟨g1, g2⟩ := gi_le h1 h.1
  refine ⟨divisor_ok h1 h2 h, okDiv_of g1 (by omega), okMul_r ?_, lcI_law h1 h⟩
  have q1 : 0 ≤ d / gi d c := Int.ediv_nonneg (by omega) (by omega)
  have q2 : d / gi d c ≤ d := Int.ediv_le_self _ (by omega)
  omega
theorem scaled1 {A B : Z.D} {x5 x6 y4 : Option Sl} {c : Int} {p : Pc} (h : CmOk c) (hp : PcOk p) :
    l__law_scaled_2 [some (.dat A), some (.dat B), some (.dat (.int c)), some (.dat (pcD false p)), y4, x5, x6] = some (.nx [some (.dat A), some (.dat B), some (.dat (.int (comP c p))), some (.dat (pcD false p)), some (.dat (frD false p.2.2)), x5, x6]) := by
  obtain ⟨a1, a2, a3, a4⟩ := sc1 hp.1.2.2.1 hp.1.2.2.2.1 h
  have hb := lcI_ok h hp.1.2.2.1 hp.1.2.2.2.1
  obtain ⟨b1, b2, b3, b4⟩ := sc1 hp.2.1.2.2.1 hp.2.1.2.2.2.1 hb
  have hc := lcI_ok hb hp.2.1.2.2.1 hp.2.1.2.2.2.1
  obtain ⟨c1, c2, c3, c4⟩ := sc1 hp.2.2.1.2.2.1 hp.2.2.1.2.2.2.1 hc
  simp [l__law_scaled_2, l__law_scaled_1, pcD, frD, comP, s_for1, a1, a2, a3, a4, b1, b2, b3, b4, c1, c2, c3, c4]
theorem part_sc {C : Int} {f : Fr} (h : FrOk f) : okDiv f.2 = true ∧ okMul f.1 (C / f.2) = true := ⟨okDiv_of (by have := h.2.2.1; omega) (by have := h.2.2.1; have := h.2.2.2.1; omega), okMul_l (by have := h.1; have := h.2.1; omega)⟩
theorem scaled2 {A B : Z.D} {y4 y6 : Option Sl} {C : Int} {p : Pc} {L : List Z.D} {a : T3} (hp : PcOk p) (hy : Scr y4) (hl : L.length < 1000) :
    l__law_scaled_3 [some (.dat A), some (.dat B), some (.dat (.int C)), some (.dat (pcD false p)), y4, some (.own (.lst (L ++ [t3D a]))), y6] =
      some (.nx [some (.dat A), some (.dat B), some (.dat (.int C)), some (.dat (pcD false p)), y4, some (.own (.lst ((L ++ [t3D a]) ++ [t3D (addT C a p)]))), some (.own (.lst [.int (sc C p.1), .int (sc C p.2.1), .int (sc C p.2.2)]))]) := by
  obtain ⟨a1, a2⟩ := part_sc (C := C) hp.1
  obtain ⟨b1, b2⟩ := part_sc (C := C) hp.2.1
  obtain ⟨c1, c2⟩ := part_sc (C := C) hp.2.2.1
  have hl2 : L.length + 1 < 16777216 := by omega
  have q1 : (some (Sl.own (.lst [.int (sc C p.1), .int (sc C p.2.1), .int (sc C p.2.2)]))) = (some (Sl.own (.lst [.int (sc C p.1), .int (sc C p.2.1), .int (sc C p.2.2)]))) := rfl
  rcases hy with rfl | ⟨d, rfl⟩ <;> simp [l__law_scaled_3, e__law_scaled_1, pcD, frD, t3D, sc, addT, a1, a2, b1, b2, c1, c2, hl2]
theorem scaled_ok {ps : List Pc} {r : Fr} (hp : ∀ p ∈ ps, PcOk p) (hr : FrOk r) (hl : ps.length ≤ 400) :
    m__law_scaled [psD false ps, frD false r] = some (.dat (.tup [.lst ((sums (com r.2 ps) (0, 0, 0) ps).map t3D), .int (sc (com r.2 ps) r)])) := by
  obtain ⟨env1, h1, qs1, c1, y3, y4, e1, hq1, hc1, hc2, hy4⟩ := forS_nx (b := nmB 3) (f := l__law_scaled_2)
    (fun ds env => ∃ qs c y3 y4, env = [some (.dat (psD false ps)), some (.dat (frD false r)), some (.dat (.int c)), y3, y4, none, none] ∧ ds = qs.map (pcD false) ∧ CmOk c ∧ com c qs = com r.2 ps ∧ Scr y4 ∧ ∀ p ∈ qs, PcOk p)
    (by
      rintro d ds env ⟨qs, c, y3, y4, rfl, hq, hc1, hc2, hy4, hqp⟩
      cases qs with
      | nil => cases hq
      | cons p qs =>
        cases hq
        have hp := hqp p (List.mem_cons_self ..)
        exact ⟨_, _, rfl, scaled1 hc1 hp, qs, _, _, _, rfl, rfl, comP_ok hc1 hp, hc2, Scr.dat, fun q hq => hqp q (List.mem_cons_of_mem _ hq)⟩)
    (ps.map (pcD false)) [some (.dat (psD false ps)), some (.dat (frD false r)), some (.dat (.int r.2)), none, none, none, none] ⟨ps, r.2, _, _, rfl, rfl, CmOk.of hr.2.2.1 hr.2.2.2.1, rfl, .inl rfl, hp⟩
  have hn : qs1 = [] := by
    cases qs1 with
    | nil => rfl
    | cons p qs => cases hq1
  subst hn
  subst e1
  change c1 = com r.2 ps at hc2
  subst hc2
  generalize hC : com r.2 ps = C at *
  obtain ⟨env2, h2, qs2, L, a, z3, z6, e2, hq2, hsum, hqp, hlen⟩ := forS_nx (b := nmB 3) (f := l__law_scaled_3)
    (fun ds env => ∃ qs L a y3 y6, env = [some (.dat (psD false ps)), some (.dat (frD false r)), some (.dat (.int C)), y3, y4, some (.own (.lst (L ++ [t3D a]))), y6] ∧ ds = qs.map (pcD false) ∧ L ++ (sums C a qs).map t3D = (sums C (0, 0, 0) ps).map t3D ∧ (∀ p ∈ qs, PcOk p) ∧ L.length + qs.length ≤ 400)
    (by
      rintro d ds env ⟨qs, L, a, y3, y6, rfl, hq, hs, hqp, hlen⟩
      cases qs with
      | nil => cases hq
      | cons p qs =>
        cases hq
        have hp := hqp p (List.mem_cons_self ..)
        simp only [List.length_cons] at hlen
        exact ⟨_, _, rfl, scaled2 hp hy4.1 (by omega), qs, L ++ [t3D a], addT C a p, _, _, rfl, rfl, by rw [List.append_assoc]; exact hs, fun q hq => hqp q (List.mem_cons_of_mem _ hq), by simp; omega⟩)
    (ps.map (pcD false)) [some (.dat (psD false ps)), some (.dat (frD false r)), some (.dat (.int C)), y3, y4, some (.own (.lst ([] ++ [t3D (0, 0, 0)]))), none] ⟨ps, [], (0, 0, 0), _, _, rfl, rfl, rfl, hp, by simp; exact hl⟩
  have hn2 : qs2 = [] := by
    cases qs2 with
    | nil => rfl
    | cons p qs => cases hq2
  subst hn2
  subst e2
  obtain ⟨a1, a2⟩ := part_sc (C := C) hr
  simp only [psD, wrap_f, frD] at h1 h2
  have hs2 : L ++ [t3D a] = (sums C (0, 0, 0) ps).map t3D := hsum
  rw [hs2] at h2
  simp only [List.nil_append, t3D] at h2
  simp [m__law_scaled, b__law_scaled, psD, frD, h1, h2, a1, a2, sc, t3D]
end K77

set_option Elab.async false
set_option linter.all false
set_option maxRecDepth 100000
set_option maxHeartbeats 1000000
namespace K77
open PySem PySem.Spec PyProof.Rows L2 Z
section
variable {c f : Str} {fe : Fe} {env : En} {g : Nat}
@[simp] theorem s_zset : zsetS c f fe env = (fe env).bind fun p => (kp p.2 (fz p.1)).bind fun q => (slfOf q.2).bind fun t =>
  if t.1 = c ∧ f ∉ t.2.1 ∧ oneSlf q.2 = true ∧ t.2.1.length < 1000 then some (.nx (q.2.set 0 (some (.slf c (t.2.1 ++ [f]) (t.2.2 ++ [.dat q.1]))))) else none := rfl
@[simp] theorem s_zlnk : zlnkS c f g fe env = (fe env).bind fun p => match p.1 with
  | .own o => (slfOf p.2).bind fun t => if t.1 = c ∧ f ∉ t.2.1 ∧ oneSlf p.2 = true ∧ t.2.1.length < 1000 ∧ g ≠ 0 ∧ p.2[g]?.any Option.isNone = true ∧ t.2.2.all (noLnk g) = true then
      some (.nx ((p.2.set g (some (.par o))).set 0 (some (.slf c (t.2.1 ++ [f]) (t.2.2 ++ [.lnk g]))))) else none
  | _ => none := rfl
@[simp] theorem s_slfOf {ns : List Str} {fs : List Fv} : slfOf (some (.slf c ns fs) :: env) = some (c, ns, fs) := rfl
@[simp] theorem s_oneSlf {s : Option Sl} : oneSlf (s :: env) = env.all fun s => !isSlf s := rfl
@[simp] theorem s_isSlfn : isSlf none = false := rfl
@[simp] theorem s_isSlfd {d : Z.D} : isSlf (some (.dat d)) = false := rfl
@[simp] theorem s_isSlfp {o : OC} : isSlf (some (.par o)) = false := rfl
@[simp] theorem s_isSlfo {o : OC} : isSlf (some (.own o)) = false := rfl
end
theorem ne1 : ¬ ("room" : Str) = "many" := by decide +kernel
theorem ne2 : ¬ ("_sums" : Str) = "many" := by decide +kernel
theorem ne3 : ¬ ("_sums" : Str) = "room" := by decide +kernel
abbrev slfD (a b : Z.D) : Option Sl := some (.slf "Lines" ["many", "room", "_sums"] [.dat a, .dat b, .lnk 10])
def linesD (many : Int) (R : Int) (S : List T3) : Z.D := .obj "Lines" ["many", "room", "_sums"] [.int many, .int R, .lst (S.map t3D)]
theorem self_sums {a b : Z.D} {x1 x2 x3 x4 x5 x6 x7 x8 x9 : Option Sl} {o : OC} : selfD "Lines" "_sums" [slfD a b, x1, x2, x3, x4, x5, x6, x7, x8, x9, some (.par o)] = some (.slot 10) := by rfl
theorem lcm1 {c d : Int} (h : CmOk c) (h1 : 1 ≤ d) (h2 : d ≤ 1000) : (c.natAbs < Big ∧ d.natAbs < Big) := ⟨h.big, Nat.lt_of_lt_of_le (show d.natAbs < 2 ^ 63 by omega) Big_le⟩
theorem lcm2 (c d : Int) : ((Nat.lcm c.natAbs d.natAbs : Nat) : Int) = lcI c d := rfl
theorem lines1 {s0 x5 x6 x7 x8 x9 x10 : Option Sl} {A B : Z.D} {b : Bool} {c : Int} {p : Pc} (h : CmOk c) (hp : PcOk p) :
    l_Lines_2 [s0, some (.dat A), some (.dat B), some (.dat (.int c)), some (.dat (pcD b p)), x5, x6, x7, x8, x9, x10] = some (.nx [s0, some (.dat A), some (.dat B), some (.dat (.int (comP c p))), some (.dat (pcD b p)), some (.dat (frD b p.2.2)), x6, x7, x8, x9, x10]) := by
  have a := lcm1 h hp.1.2.2.1 hp.1.2.2.2.1
  have hb := lcI_ok h hp.1.2.2.1 hp.1.2.2.2.1
  have b' := lcm1 hb hp.2.1.2.2.1 hp.2.1.2.2.2.1
  have hc := lcI_ok hb hp.2.1.2.2.1 hp.2.1.2.2.2.1
  have c' := lcm1 hc hp.2.2.1.2.2.1 hp.2.2.1.2.2.2.1
  cases b <;> simp [l_Lines_2, l_Lines_1, pcD, frD, comP, s_for1, lcm2, a, b', c']
theorem lines2 {x6 x7 x8 x9 y5 : Option Sl} {A B M RR : Z.D} {b : Bool} {C : Int} {p : Pc} {L : List Z.D} {a : T3} (hp : PcOk p) (hy : Scr y5) (hl : L.length < 1000) :
    l_Lines_3 [slfD M RR, some (.dat A), some (.dat B), some (.dat (.int C)), some (.dat (pcD b p)), y5, x6, x7, x8, x9, some (.par (.lst (L ++ [t3D a])))] =
      some (.nx [slfD M RR, some (.dat A), some (.dat B), some (.dat (.int C)), some (.dat (pcD b p)), y5, some (.dat (.int (sc C p.1))), some (.dat (.int (sc C p.2.1))), some (.dat (.int (sc C p.2.2))), some (.dat (t3D a)), some (.par (.lst ((L ++ [t3D a]) ++ [t3D (addT C a p)])))]) := by
  obtain ⟨a1, a2⟩ := part_sc (C := C) hp.1
  obtain ⟨b1, b2⟩ := part_sc (C := C) hp.2.1
  obtain ⟨c1, c2⟩ := part_sc (C := C) hp.2.2.1
  have hl2 : L.length + 1 < 16777216 := by omega
  rcases hy with rfl | ⟨d, rfl⟩ <;> cases b <;> simp [l_Lines_3, e_Lines_1, selfS, selfAppS, self_sums, pcD, frD, t3D, sc, addT, a1, a2, b1, b2, c1, c2, hl2]
theorem lines_ok {b : Bool} {ps : List Pc} {r : Fr} (hp : ∀ p ∈ ps, PcOk p) (hr : FrOk r) (hr0 : 1 ≤ r.1) (hl0 : 1 ≤ ps.length) (hl : ps.length ≤ 400) :
    m_Lines [psD b ps, frD false r] = some (([("many" : Str), "room", "_sums"] : List Str), ([.int ps.length, .int (sc (com r.2 ps) r), .lst ((sums (com r.2 ps) (0, 0, 0) ps).map t3D)] : List Z.D)) := by
  obtain ⟨env1, h1, qs1, c1, y4, y5, e1, hq1, hc1, hc2, hy4, hy5⟩ := forS_nx (b := nmB 4) (f := l_Lines_2)
    (fun ds env => ∃ qs c y4 y5, env = [some (.slf "Lines" [] []), some (.dat (psD b ps)), some (.dat (frD false r)), some (.dat (.int c)), y4, y5, none, none, none, none, none] ∧ ds = qs.map (pcD b) ∧ CmOk c ∧ com c qs = com r.2 ps ∧ Scr y4 ∧ Scr y5 ∧ ∀ p ∈ qs, PcOk p)
    (by
      rintro d ds env ⟨qs, c, y4, y5, rfl, hq, hc1, hc2, hy4, hy5, hqp⟩
      cases qs with
      | nil => cases hq
      | cons p qs =>
        cases hq
        have hp := hqp p (List.mem_cons_self ..)
        exact ⟨_, _, rfl, lines1 hc1 hp, qs, _, _, _, rfl, rfl, comP_ok hc1 hp, hc2, Scr.dat, Scr.dat, fun q hq => hqp q (List.mem_cons_of_mem _ hq)⟩)
    (ps.map (pcD b)) [some (.slf "Lines" [] []), some (.dat (psD b ps)), some (.dat (frD false r)), some (.dat (.int r.2)), none, none, none, none, none, none, none] ⟨ps, r.2, _, _, rfl, rfl, CmOk.of hr.2.2.1 hr.2.2.2.1, rfl, .inl rfl, .inl rfl, hp⟩
  have hn : qs1 = [] := by
    cases qs1 with
    | nil => rfl
    | cons p qs => cases hq1
  subst hn
  subst e1
  change c1 = com r.2 ps at hc2
  subst hc2
  generalize hC : com r.2 ps = C at *
  obtain ⟨env2, h2, qs2, L, a, z4, z6, z7, z8, z9, e2, hq2, hsum, hqp, hlen⟩ := forS_nx (b := nmB 4) (f := l_Lines_3)
    (fun ds env => ∃ qs L a y4 y6 y7 y8 y9, env = [slfD (.int ps.length) (.int (sc C r)), some (.dat (psD b ps)), some (.dat (frD false r)), some (.dat (.int C)), y4, y5, y6, y7, y8, y9, some (.par (.lst (L ++ [t3D a])))] ∧ ds = qs.map (pcD b) ∧ L ++ (sums C a qs).map t3D = (sums C (0, 0, 0) ps).map t3D ∧ (∀ p ∈ qs, PcOk p) ∧ L.length + qs.length ≤ 400)
    (by
      rintro d ds env ⟨qs, L, a, y4, y6, y7, y8, y9, rfl, hq, hs, hqp, hlen⟩
      cases qs with
      | nil => cases hq
      | cons p qs =>
        cases hq
        have hp := hqp p (List.mem_cons_self ..)
        simp only [List.length_cons] at hlen
        exact ⟨_, _, rfl, lines2 hp hy5.1 (by omega), qs, L ++ [t3D a], addT C a p, _, _, _, _, _, rfl, rfl, by rw [List.append_assoc]; exact hs, fun q hq => hqp q (List.mem_cons_of_mem _ hq), by simp; omega⟩)
    (ps.map (pcD b)) [slfD (.int ps.length) (.int (sc C r)), some (.dat (psD b ps)), some (.dat (frD false r)), some (.dat (.int C)), y4, y5, none, none, none, none, some (.par (.lst ([] ++ [t3D (0, 0, 0)])))] ⟨ps, [], (0, 0, 0), _, _, _, _, _, rfl, rfl, rfl, hp, by simp; exact hl⟩
  have hn2 : qs2 = [] := by
    cases qs2 with
    | nil => rfl
    | cons p qs => cases hq2
  subst hn2
  subst e2
  obtain ⟨a1, a2⟩ := part_sc (C := C) hr
  have hck := check_ok (b := b) hp hl0 hl
  have hpt := part_ok (b := false) hr
  have hr0' : ¬ r.1 = 0 := by omega
  have hs2 : L ++ [t3D a] = (sums C (0, 0, 0) ps).map t3D := hsum
  rw [hs2] at h2
  have i4 := hy4.slf
  have i5 := hy5.1.slf
  have hsc : r.1 * (C / r.2) = sc C r := rfl
  cases b <;> (simp only [psD, wrap_f, wrap_t, frD] at h1 h2 hck hpt; simp only [List.nil_append, t3D, slfD] at h2; simp [m_Lines, Z.runI, startI, finI, resAll, resF, b_Lines, psD, frD, hck, hpt, hr0', h1, i4, i5, ne1, ne2, ne3, a1, a2, noLnk, hsc, h2])
end K77

set_option Elab.async false
set_option linter.all false
set_option maxRecDepth 100000
set_option maxHeartbeats 1000000
namespace K77
open PySem PySem.Spec PyProof.Rows L2 Z
def oi : Option Int → Z.D
  | none => .non
  | some i => .int i
@[simp] theorem oi_n : oi none = .non := rfl
@[simp] theorem oi_s {i : Int} : oi (some i) = .int i := rfl
def gS (S : List T3) (i : Nat) : T3 := S.getD i (0, 0, 0)
theorem at_nat {α : Type} {xs : List α} {i : Nat} {x : α} (h : xs[i]? = some x) : atI xs (i : Int) = some x := by
  have hi := get_lt h
  unfold atI ixN
  rw [if_pos (Int.natCast_nonneg i), if_pos (by omega)]
  exact h
theorem at_S {S : List T3} {i : Nat} (h : i < S.length) : atI (S.map t3D) (i : Int) = some (t3D (gS S i)) := by
  refine at_nat ?_
  rw [List.getElem?_map, List.getElem?_eq_getElem h]
  unfold gS
  rw [List.getD_eq_getElem?_getD, List.getElem?_eq_getElem h]
  rfl
@[irreducible] def BB : Nat := 2 ^ 1600
theorem BB1 : 8192 * BB ≤ Big := by
  unfold BB Big
  rw [show (8192 : Nat) = 2 ^ 13 from rfl, ← Nat.pow_add]
  exact Nat.pow_le_pow_right (by decide) (by decide)
theorem BB2 : (4 * BB) * (4 * BB) ≤ Big := by
  unfold BB Big
  rw [show (4 : Nat) = 2 ^ 2 from rfl, ← Nat.pow_add, ← Nat.pow_add]
  exact Nat.pow_le_pow_right (by decide) (by decide)
theorem BB3 : 1000 ≤ BB := by unfold BB; exact Nat.le_trans (show 1000 ≤ 2 ^ 10 by decide) (Nat.pow_le_pow_right (by decide) (by decide))
/-- the scaled sums as they are reckoned with -/
structure ScOk (S : List T3) (R : Int) (many : Nat) : Prop where
  len : S.length = many + 1
  most : many ≤ 400
  bd : ∀ i, 0 ≤ (gS S i).1 ∧ (gS S i).1.natAbs < BB ∧ 0 ≤ (gS S i).2.1 ∧ (gS S i).2.1.natAbs < BB ∧ 0 ≤ (gS S i).2.2 ∧ (gS S i).2.2.natAbs < BB
  mono : ∀ i j, i ≤ j → j ≤ many → (gS S i).2.1 ≤ (gS S j).2.1 ∧ (gS S i).2.2 ≤ (gS S j).2.2
  r0 : 0 ≤ R
  rb : R.natAbs < BB
def badW (w R s : Int) : Option Int := if s = 0 then none else some (1000 * (w - R) * (w - R) / (s * s))
def bad3 (w s h R : Int) (last : Prop) [Decidable last] : Option Int :=
  if w = R then some 0 else if w < R then (if last then some 0 else badW w R s) else if R < w - h then none else badW w R h
def badF (S : List T3) (R : Int) (many i j : Nat) : Option Int :=
  bad3 ((gS S j).1 - (gS S i).1) ((gS S j).2.1 - (gS S i).2.1) ((gS S j).2.2 - (gS S i).2.2) R (j = many)
theorem sq_ok {x y : Int} (h : x.natAbs < 4 * BB) (hy : 0 < y) (hy2 : y.natAbs < 4 * BB) : okMul 1000 x = true ∧ okMul (1000 * x) x = true ∧ okMul y y = true ∧ okDiv (y * y) = true := by
  have b1 := BB1
  have b2 := BB2
  refine ⟨okMul_l (by decide), okMul_B (by omega) (by omega), okMul_B (by omega) (by omega), okDiv_B (Int.mul_pos hy hy) ?_⟩
  rw [Int.natAbs_mul]
  exact Nat.lt_of_lt_of_le (Nat.mul_lt_mul'' hy2 hy2) b2
theorem law_bad_ok {S : List T3} {R : Int} {many i j : Nat} (h : ScOk S R many) (hij : i < j) (hj : j ≤ many) : m__law_bad [.tup [.lst (S.map t3D), .int R], .int (i : Int), .int (j : Int)] = some (.dat (oi (badF S R many i j))) := by
  have l := h.len
  have ai := at_S (S := S) (i := i) (by omega)
  have aj := at_S (S := S) (i := j) (by omega)
  have bi := h.bd i
  have bj := h.bd j
  have mo := h.mono i j (by omega) hj
  have rb := h.rb
  have r0 := h.r0
  unfold badF
  rcases hgi : gS S i with ⟨x1, x2, x3⟩
  rcases hgj : gS S j with ⟨y1, y2, y3⟩
  rw [hgi] at ai bi mo
  rw [hgj] at aj bj mo
  simp only [t3D] at ai aj bi bj mo
  have hlast : ((j : Int) = (S.length : Int) - 1) = (j = many) := by rw [l]; exact propext ⟨fun z => by omega, fun z => by omega⟩
  unfold bad3 badW
  by_cases c1 : y1 - x1 = R
  · simp [m__law_bad, b__law_bad, ai, aj, c1]
  · by_cases c2 : y1 - x1 < R
    · have c3 : ¬ R < y1 - x1 := by omega
      by_cases c4 : j = many
      · subst c4
        simp [m__law_bad, b__law_bad, ai, aj, c1, c2, c3, hlast]
      · by_cases c5 : y2 - x2 = 0
        · simp [m__law_bad, b__law_bad, ai, aj, c1, c2, c3, hlast, c4, c5]
        · obtain ⟨s1, s2, s3, s4⟩ := sq_ok (x := y1 - x1 - R) (y := y2 - x2) (by omega) (by omega) (by omega)
          simp [m__law_bad, b__law_bad, ai, aj, c1, c2, c3, hlast, c4, c5, s1, s2, s3, s4]
    · have c3 : R < y1 - x1 := by omega
      by_cases c4 : R < y1 - x1 - (y3 - x3)
      · simp [m__law_bad, b__law_bad, ai, aj, c1, c2, c3, hlast, c4]
      · have c5 : ¬ y3 - x3 = 0 := by omega
        obtain ⟨s1, s2, s3, s4⟩ := sq_ok (x := y1 - x1 - R) (y := y3 - x3) (by omega) (by omega) (by omega)
        simp [m__law_bad, b__law_bad, ai, aj, c1, c2, c3, hlast, c4, c5, s1, s2, s3, s4]
@[simp] theorem rng3 : rngD 0 3 = [.int 0, .int 1, .int 2] := by rfl
@[simp] theorem fld_sums {many R : Int} {S : List T3} : fldD "Lines" "_sums" (linesD many R S) = some (.lst (S.map t3D)) := by rfl
@[simp] theorem fld_many {many R : Int} {S : List T3} : fldD "Lines" "many" (linesD many R S) = some (.int many) := by rfl
@[simp] theorem fld_room {many R : Int} {S : List T3} : fldD "Lines" "room" (linesD many R S) = some (.int R) := by rfl
theorem badness_ok {S : List T3} {R : Int} {many i j : Nat} (h : ScOk S R many) (hij : i < j) (hj : j ≤ many) : m_Lines_badness [linesD many R S, .int (i : Int), .int (j : Int)] = some (.dat (oi (badF S R many i j))) := by
  have l := h.len
  have ai := at_S (S := S) (i := i) (by omega)
  have aj := at_S (S := S) (i := j) (by omega)
  have bi := h.bd i
  have bj := h.bd j
  have mo := h.mono i j (by omega) hj
  have rb := h.rb
  have r0 := h.r0
  unfold badF
  rcases hgi : gS S i with ⟨x1, x2, x3⟩
  rcases hgj : gS S j with ⟨y1, y2, y3⟩
  rw [hgi] at ai bi mo
  rw [hgj] at aj bj mo
  simp only [t3D] at ai aj bi bj mo
  have hlast : ((j : Int) = (many : Int)) = (j = many) := propext ⟨fun z => by omega, fun z => by omega⟩
  unfold bad3 badW
  by_cases c1 : y1 - x1 = R
  · have d1 : R - (y1 - x1) = 0 := by omega
    simp [-s_fldD, m_Lines_badness, b_Lines_badness, e_Lines_badness_1, ai, aj, c1]
  · have d1 : ¬ R - (y1 - x1) = 0 := by omega
    by_cases c2 : y1 - x1 < R
    · have c3 : 0 < R - (y1 - x1) := by omega
      by_cases c4 : j = many
      · subst c4
        simp [-s_fldD, m_Lines_badness, b_Lines_badness, e_Lines_badness_1, ai, aj, c1, c2, c3, d1, hlast]
      · by_cases c5 : y2 - x2 = 0
        · have c6 : ¬ x2 < y2 := by omega
          simp [-s_fldD, m_Lines_badness, b_Lines_badness, e_Lines_badness_1, ai, aj, c1, c2, c3, d1, hlast, c4, c5, c6]
        · have c6 : x2 < y2 := by omega
          obtain ⟨s1, s2, s3, s4⟩ := sq_ok (x := R - (y1 - x1)) (y := y2 - x2) (by omega) (by omega) (by omega)
          have e : 1000 * (R - (y1 - x1)) * (R - (y1 - x1)) = 1000 * (y1 - x1 - R) * (y1 - x1 - R) := by
            rw [show R - (y1 - x1) = -(y1 - x1 - R) by omega]
            generalize y1 - x1 - R = z
            rw [Int.mul_neg, Int.mul_neg, Int.neg_mul, Int.neg_neg]
          simp [-s_fldD, m_Lines_badness, b_Lines_badness, e_Lines_badness_1, ai, aj, c1, c2, c3, d1, hlast, c4, c5, c6, s1, s2, s3, s4, e]
    · have c3 : ¬ 0 < R - (y1 - x1) := by omega
      by_cases c4 : R < y1 - x1 - (y3 - x3)
      · have c6 : ¬ 0 ≤ y3 - x3 + (R - (y1 - x1)) := by omega
        simp [-s_fldD, m_Lines_badness, b_Lines_badness, e_Lines_badness_1, ai, aj, c1, c2, c3, d1, hlast, c4, c6]
      · have c6 : 0 ≤ y3 - x3 + (R - (y1 - x1)) := by omega
        have c5 : ¬ y3 - x3 = 0 := by omega
        obtain ⟨s1, s2, s3, s4⟩ := sq_ok (x := R - (y1 - x1)) (y := y3 - x3) (by omega) (by omega) (by omega)
        have e : 1000 * (R - (y1 - x1)) * (R - (y1 - x1)) = 1000 * (y1 - x1 - R) * (y1 - x1 - R) := by
          rw [show R - (y1 - x1) = -(y1 - x1 - R) by omega]
          generalize y1 - x1 - R = z
          rw [Int.mul_neg, Int.mul_neg, Int.neg_mul, Int.neg_neg]
        simp [-s_fldD, m_Lines_badness, b_Lines_badness, e_Lines_badness_1, ai, aj, c1, c2, c3, d1, hlast, c4, c5, c6, s1, s2, s3, s4, e]
end K77

set_option Elab.async false
set_option linter.all false
set_option maxRecDepth 100000
set_option maxHeartbeats 1000000
namespace K77
open PySem PySem.Spec PyProof.Rows L2 Z
abbrev Ed := Int × Int
def nD (j : Nat) : Z.D := .int (j : Int)
def eD (e : Ed) : Z.D := .tup [.int e.1, .int e.2]
def fitB (S : List T3) (R : Int) (i j : Nat) : Prop := R < (gS S j).1 - (gS S i).1 - ((gS S j).2.2 - (gS S i).2.2)
instance {S : List T3} {R : Int} {i j : Nat} : Decidable (fitB S R i j) := by unfold fitB; infer_instance
def rowGo (S : List T3) (R : Int) (many i : Nat) : List Nat → List Ed
  | [] => []
  | j :: r => if fitB S R i j then [] else match badF S R many i j with
    | none => rowGo S R many i r
    | some b => ((j : Int), b) :: rowGo S R many i r
def stopsF (many i : Nat) : List Nat := (List.range (many - i)).map fun k => i + 1 + k
def rowF (S : List T3) (R : Int) (many i : Nat) : List Ed := rowGo S R many i (stopsF many i)
theorem stops_mem {many i j : Nat} (h : j ∈ stopsF many i) : i < j ∧ j ≤ many := by
  unfold stopsF at h
  obtain ⟨k, hk, rfl⟩ := List.mem_map.mp h
  have := List.mem_range.mp hk
  omega
theorem stops_rng {many i : Nat} (h : i ≤ many) : rngD ((i : Int) + 1) ((many : Int) + 1 - ((i : Int) + 1)).toNat = (stopsF many i).map nD := by
  unfold rngD stopsF
  rw [List.map_map, show ((many : Int) + 1 - ((i : Int) + 1)).toNat = many - i by omega]
  refine List.map_congr_left fun k _ => ?_
  show Z.D.int ((i : Int) + 1 + (k : Int)) = Z.D.int ((i + 1 + k : Nat) : Int)
  congr 1
theorem from_loop {S : List T3} {R : Int} {many i : Nat} (h : ScOk S R many) (hi : i ≤ many) : ∀ (js : List Nat) (acc : List Z.D) (y4 y5 y6 : Option Sl), (∀ j ∈ js, i < j ∧ j ≤ many) → acc.length + js.length ≤ 1000 →
    ∃ y4' y5' y6', forS (nmB 4) l_Lines_from_piece_1 (js.map nD) [some (.dat (linesD many R S)), some (.dat (.int (i : Int))), some (.own (.lst acc)), some (.dat (t3D (gS S i))), y4, y5, y6] =
      some (.nx [some (.dat (linesD many R S)), some (.dat (.int (i : Int))), some (.own (.lst (acc ++ (rowGo S R many i js).map eD))), some (.dat (t3D (gS S i))), y4', y5', y6'])
  | [], acc, y4, y5, y6, _, _ => ⟨y4, y5, y6, by simp [rowGo]⟩
  | j :: js, acc, y4, y5, y6, hj, hl => by
    obtain ⟨j1, j2⟩ := hj j (List.mem_cons_self ..)
    have l := h.len
    have aj := at_S (S := S) (i := j) (by omega)
    have hb := badness_ok h j1 j2
    simp only [List.length_cons] at hl
    have hm1 : ¬ ("badness" : Str) = "many" := by decide +kernel
    have hm2 : ¬ ("badness" : Str) = "room" := by decide +kernel
    have hm3 : ¬ ("badness" : Str) = "_sums" := by decide +kernel
    have hmd : methD "Lines" "badness" (linesD many R S) = true := by simp [linesD, hm1, hm2, hm3]
    rw [List.map_cons, s_for1, show nD j = .int (j : Int) from rfl]
    by_cases c : fitB S R i j
    · refine ⟨some (.dat (.int (j : Int))), some (.dat (t3D (gS S j))), y6, ?_⟩
      have e : rowGo S R many i (j :: js) = [] := by unfold rowGo; rw [if_pos c]
      rw [e]
      unfold fitB at c
      simp [-s_fldD, l_Lines_from_piece_1, aj, t3D, c]
    · cases hbd : badF S R many i j with
      | none =>
        obtain ⟨z4, z5, z6, ih⟩ := from_loop h hi js acc (some (.dat (.int (j : Int)))) (some (.dat (t3D (gS S j)))) (some (.dat .non)) (fun k hk => hj k (List.mem_cons_of_mem _ hk)) (by omega)
        refine ⟨z4, z5, z6, ?_⟩
        have e : rowGo S R many i (j :: js) = rowGo S R many i js := by show (if fitB S R i j then _ else _) = _; rw [if_neg c, hbd]
        rw [e]
        have step : l_Lines_from_piece_1 [some (.dat (linesD many R S)), some (.dat (.int (i : Int))), some (.own (.lst acc)), some (.dat (t3D (gS S i))), some (.dat (.int (j : Int))), y5, y6] = some (.nx [some (.dat (linesD many R S)), some (.dat (.int (i : Int))), some (.own (.lst acc)), some (.dat (t3D (gS S i))), some (.dat (.int (j : Int))), some (.dat (t3D (gS S j))), some (.dat .non)]) := by
          rw [hbd] at hb
          unfold fitB at c
          simp [-s_fldD, -s_methD, l_Lines_from_piece_1, aj, t3D, c, hmd, hb]
        show Option.bind (l_Lines_from_piece_1 [some (.dat (linesD many R S)), some (.dat (.int (i : Int))), some (.own (.lst acc)), some (.dat (t3D (gS S i))), some (.dat (.int (j : Int))), y5, y6]) _ = _
        rw [step, Option.bind_some]
        exact ih
      | some b =>
        obtain ⟨z4, z5, z6, ih⟩ := from_loop h hi js (acc ++ [eD (j, b)]) (some (.dat (.int (j : Int)))) (some (.dat (t3D (gS S j)))) (some (.dat (.int b))) (fun k hk => hj k (List.mem_cons_of_mem _ hk)) (by simp; omega)
        refine ⟨z4, z5, z6, ?_⟩
        have e : rowGo S R many i (j :: js) = ((j : Int), b) :: rowGo S R many i js := by show (if fitB S R i j then _ else _) = _; rw [if_neg c, hbd]
        rw [e]
        have hl2 : acc.length < 16777216 := by omega
        have step : l_Lines_from_piece_1 [some (.dat (linesD many R S)), some (.dat (.int (i : Int))), some (.own (.lst acc)), some (.dat (t3D (gS S i))), some (.dat (.int (j : Int))), y5, y6] = some (.nx [some (.dat (linesD many R S)), some (.dat (.int (i : Int))), some (.own (.lst (acc ++ [eD (j, b)]))), some (.dat (t3D (gS S i))), some (.dat (.int (j : Int))), some (.dat (t3D (gS S j))), some (.dat (.int b))]) := by
          rw [hbd] at hb
          unfold fitB at c
          simp [-s_fldD, -s_methD, l_Lines_from_piece_1, aj, t3D, c, hmd, hb, hl2, eD]
        show Option.bind (l_Lines_from_piece_1 [some (.dat (linesD many R S)), some (.dat (.int (i : Int))), some (.own (.lst acc)), some (.dat (t3D (gS S i))), some (.dat (.int (j : Int))), y5, y6]) _ = _
        rw [step, Option.bind_some]
        rw [List.append_assoc] at ih
        exact ih
theorem from_ok {S : List T3} {R : Int} {many i : Nat} (h : ScOk S R many) (hi : i ≤ many) : m_Lines_from_piece [linesD many R S, .int (i : Int)] = some (.own (.lst ((rowF S R many i).map eD))) := by
  have l := h.len
  have hm := h.most
  have ai := at_S (S := S) (i := i) (by omega)
  obtain ⟨z4, z5, z6, key⟩ := from_loop h hi (stopsF many i) [] none none none (fun j hj => stops_mem hj) (by unfold stopsF; simp; omega)
  rw [← stops_rng hi] at key
  have g1 : ((i : Int) + 1).natAbs < 2305843009213693952 := by omega
  have g2 : ((many : Int) + 1).natAbs < 2305843009213693952 := by omega
  simp only [t3D, List.nil_append] at ai key
  have e : (many : Int) + 1 - ((i : Int) + 1) = (many : Int) - (i : Int) := by omega
  simp [-s_fldD, m_Lines_from_piece, b_Lines_from_piece, ai, g1, g2, key, rowF]
theorem fit_loop {S : List T3} {R : Int} {many i : Nat} {fnd : List Z.D} (h : ScOk S R many) (hi : i ≤ many) : ∀ (js : List Nat) (acc : List Z.D) (y5 y6 : Option Sl), (∀ j ∈ js, i < j ∧ j ≤ many) → acc.length + js.length ≤ 1000 →
    ∃ y5' y6', forS (nmB 5) l__law_fitting_1 (js.map nD) [some (.dat (.tup [.lst (S.map t3D), .int R])), some (.own (.lst fnd)), some (.dat (.int (many : Int))), some (.dat (.int (i : Int))), some (.own (.lst acc)), y5, y6] =
      some (.nx [some (.dat (.tup [.lst (S.map t3D), .int R])), some (.own (.lst fnd)), some (.dat (.int (many : Int))), some (.dat (.int (i : Int))), some (.own (.lst (acc ++ (rowGo S R many i js).map eD))), y5', y6'])
  | [], acc, y5, y6, _, _ => ⟨y5, y6, by simp [rowGo]⟩
  | j :: js, acc, y5, y6, hj, hl => by
    obtain ⟨j1, j2⟩ := hj j (List.mem_cons_self ..)
    have l := h.len
    have ai := at_S (S := S) (i := i) (by omega)
    have aj := at_S (S := S) (i := j) (by omega)
    have hb := law_bad_ok h j1 j2
    simp only [List.length_cons] at hl
    rw [List.map_cons, s_for1, show nD j = .int (j : Int) from rfl]
    by_cases c : fitB S R i j
    · refine ⟨some (.dat (.int (j : Int))), y6, ?_⟩
      have e : rowGo S R many i (j :: js) = [] := by unfold rowGo; rw [if_pos c]
      rw [e]
      unfold fitB at c
      have c' : R < (gS S j).1 - (gS S i).1 - (gS S j).2.2 + (gS S i).2.2 := by omega
      simp [l__law_fitting_1, ai, aj, t3D, c']
    · have c' : ¬ R < (gS S j).1 - (gS S i).1 - (gS S j).2.2 + (gS S i).2.2 := by unfold fitB at c; omega
      cases hbd : badF S R many i j with
      | none =>
        obtain ⟨z5, z6, ih⟩ := fit_loop (fnd := fnd) h hi js acc (some (.dat (.int (j : Int)))) (some (.dat .non)) (fun k hk => hj k (List.mem_cons_of_mem _ hk)) (by omega)
        refine ⟨z5, z6, ?_⟩
        have e : rowGo S R many i (j :: js) = rowGo S R many i js := by show (if fitB S R i j then _ else _) = _; rw [if_neg c, hbd]
        rw [e]
        have step : l__law_fitting_1 [some (.dat (.tup [.lst (S.map t3D), .int R])), some (.own (.lst fnd)), some (.dat (.int (many : Int))), some (.dat (.int (i : Int))), some (.own (.lst acc)), some (.dat (.int (j : Int))), y6] = some (.nx [some (.dat (.tup [.lst (S.map t3D), .int R])), some (.own (.lst fnd)), some (.dat (.int (many : Int))), some (.dat (.int (i : Int))), some (.own (.lst acc)), some (.dat (.int (j : Int))), some (.dat .non)]) := by
          rw [hbd] at hb
          simp only [t3D] at ai aj
          simp [l__law_fitting_1, ai, aj, c', hb]
        show Option.bind (l__law_fitting_1 [some (.dat (.tup [.lst (S.map t3D), .int R])), some (.own (.lst fnd)), some (.dat (.int (many : Int))), some (.dat (.int (i : Int))), some (.own (.lst acc)), some (.dat (.int (j : Int))), y6]) _ = _
        rw [step, Option.bind_some]
        exact ih
      | some b =>
        obtain ⟨z5, z6, ih⟩ := fit_loop (fnd := fnd) h hi js (acc ++ [eD (j, b)]) (some (.dat (.int (j : Int)))) (some (.dat (.int b))) (fun k hk => hj k (List.mem_cons_of_mem _ hk)) (by simp; omega)
        refine ⟨z5, z6, ?_⟩
        have e : rowGo S R many i (j :: js) = ((j : Int), b) :: rowGo S R many i js := by show (if fitB S R i j then _ else _) = _; rw [if_neg c, hbd]
        rw [e]
        have hl2 : acc.length < 16777216 := by omega
        have step : l__law_fitting_1 [some (.dat (.tup [.lst (S.map t3D), .int R])), some (.own (.lst fnd)), some (.dat (.int (many : Int))), some (.dat (.int (i : Int))), some (.own (.lst acc)), some (.dat (.int (j : Int))), y6] = some (.nx [some (.dat (.tup [.lst (S.map t3D), .int R])), some (.own (.lst fnd)), some (.dat (.int (many : Int))), some (.dat (.int (i : Int))), some (.own (.lst (acc ++ [eD (j, b)]))), some (.dat (.int (j : Int))), some (.dat (.int b))]) := by
          rw [hbd] at hb
          simp only [t3D] at ai aj
          simp [l__law_fitting_1, ai, aj, c', hb, hl2, eD]
        show Option.bind (l__law_fitting_1 [some (.dat (.tup [.lst (S.map t3D), .int R])), some (.own (.lst fnd)), some (.dat (.int (many : Int))), some (.dat (.int (i : Int))), some (.own (.lst acc)), some (.dat (.int (j : Int))), y6]) _ = _
        rw [step, Option.bind_some]
        rw [List.append_assoc] at ih
        exact ih
def rowD (r : List Ed) : Z.D := .lst (r.map eD)
def rowsF (S : List T3) (R : Int) (many : Nat) : List (List Ed) := (List.range many).map (rowF S R many)
theorem fitting_ok {S : List T3} {R : Int} {many : Nat} (h : ScOk S R many) : m__law_fitting [.tup [.lst (S.map t3D), .int R]] = some (.own (.lst ((rowsF S R many).map rowD))) := by
  have l := h.len
  have hm := h.most
  have key : ∀ (is : List Nat) (acc : List Z.D) (y3 y4 y5 y6 : Option Sl), (∀ i ∈ is, i ≤ many) → acc.length + is.length ≤ 1000 → ∃ y3' y4' y5' y6', forS (nmB 3) l__law_fitting_2 (is.map nD) [some (.dat (.tup [.lst (S.map t3D), .int R])), some (.own (.lst acc)), some (.dat (.int (many : Int))), y3, y4, y5, y6] =
      some (.nx [some (.dat (.tup [.lst (S.map t3D), .int R])), some (.own (.lst (acc ++ is.map fun i => rowD (rowF S R many i)))), some (.dat (.int (many : Int))), y3', y4', y5', y6']) := by
    intro is
    induction is with
    | nil => intro acc y3 y4 y5 y6 _ _; exact ⟨y3, y4, y5, y6, by simp⟩
    | cons i is ih =>
      intro acc y3 y4 y5 y6 hi hl
      simp only [List.length_cons] at hl
      have hi1 := hi i (List.mem_cons_self ..)
      obtain ⟨z5, z6, k1⟩ := fit_loop (fnd := acc) h hi1 (stopsF many i) [] y5 y6 (fun j hj => stops_mem hj) (by unfold stopsF; simp; omega)
      rw [← stops_rng hi1] at k1
      have g1 : ((i : Int) + 1).natAbs < 2305843009213693952 := by omega
      have g2 : ((many : Int) + 1).natAbs < 2305843009213693952 := by omega
      have hl2 : acc.length < 16777216 := by omega
      have step : l__law_fitting_2 [some (.dat (.tup [.lst (S.map t3D), .int R])), some (.own (.lst acc)), some (.dat (.int (many : Int))), some (.dat (.int (i : Int))), y4, y5, y6] = some (.nx [some (.dat (.tup [.lst (S.map t3D), .int R])), some (.own (.lst (acc ++ [rowD (rowF S R many i)]))), some (.dat (.int (many : Int))), some (.dat (.int (i : Int))), some (.dat (rowD (rowF S R many i))), z5, z6]) := by
        rw [List.nil_append] at k1
        simp [l__law_fitting_2, g1, g2, k1, hl2, rowD, rowF]
      obtain ⟨w3, w4, w5, w6, k2⟩ := ih (acc ++ [rowD (rowF S R many i)]) (some (.dat (.int (i : Int)))) (some (.dat (rowD (rowF S R many i)))) z5 z6 (fun k hk => hi k (List.mem_cons_of_mem _ hk)) (by simp; omega)
      refine ⟨w3, w4, w5, w6, ?_⟩
      rw [List.map_cons, s_for1]
      show Option.bind (l__law_fitting_2 [some (.dat (.tup [.lst (S.map t3D), .int R])), some (.own (.lst acc)), some (.dat (.int (many : Int))), some (.dat (.int (i : Int))), y4, y5, y6]) _ = _
      rw [step, Option.bind_some, List.map_cons]
      rw [List.append_assoc] at k2
      exact k2
  obtain ⟨w3, w4, w5, w6, k⟩ := key (List.range many) [] none none none none (fun i hi => Nat.le_of_lt (List.mem_range.mp hi)) (by simp; omega)
  have e : rngD 0 many = (List.range many).map nD := by
    unfold rngD
    refine List.map_congr_left fun k _ => ?_
    show Z.D.int ((0 : Int) + (k : Int)) = Z.D.int (k : Int)
    congr 1; omega
  rw [← e, List.nil_append] at k
  have g : ((S.length : Int) - 1) = (many : Int) := by omega
  have g3 : (many : Int).natAbs < 2305843009213693952 := by omega
  have g4 : many < 2305843009213693952 := by omega
  simp [m__law_fitting, b__law_fitting, g, g3, g4, k, rowsF, rowD]
end K77

set_option Elab.async false
set_option linter.all false
set_option maxRecDepth 100000
set_option maxHeartbeats 1000000
namespace K77
open PySem PySem.Spec PyProof.Rows L2 Z
theorem sc_bd {C : Int} {f : Fr} (h : FrOk f) (hC : 0 < C) : 0 ≤ sc C f ∧ sc C f ≤ 1000000 * C := by
  have q1 : 0 ≤ C / f.2 := Int.ediv_nonneg (by omega) (by have := h.2.2.1; omega)
  have q2 : C / f.2 ≤ C := Int.ediv_le_self _ (by omega)
  unfold sc
  exact ⟨Int.mul_nonneg h.1 q1, Int.mul_le_mul h.2.1 q2 q1 (by decide)⟩
theorem gS0 {a : T3} {l : List T3} : gS (a :: l) 0 = a := rfl
theorem gSs {a : T3} {l : List T3} {i : Nat} : gS (a :: l) (i + 1) = gS l i := rfl
def Btw (U : Int) (i : Nat) (x y : Int) : Prop := x ≤ y ∧ y ≤ x + (i : Int) * U
theorem Btw.succ {U x z y : Int} {i : Nat} (h : Btw U i z y) (h1 : x ≤ z) (h2 : z ≤ x + U) : Btw U (i + 1) x y := by
  obtain ⟨a, b⟩ := h
  have e : ((i + 1 : Nat) : Int) * U = (i : Int) * U + U := by rw [Int.natCast_add, Int.add_mul]; simp
  unfold Btw
  rw [e]
  omega
theorem sums_bd {C : Int} (hC : 0 < C) : ∀ (ps : List Pc) (a : T3) (i : Nat), (∀ p ∈ ps, PcOk p) → i ≤ ps.length →
    Btw (1000000 * C) i a.1 (gS (sums C a ps) i).1 ∧ Btw (1000000 * C) i a.2.1 (gS (sums C a ps) i).2.1 ∧ Btw (1000000 * C) i a.2.2 (gS (sums C a ps) i).2.2
  | [], a, i, _, hi => by
    have : i = 0 := by simpa using hi
    subst this
    unfold sums
    rw [gS0]
    exact ⟨⟨by omega, by simp⟩, ⟨by omega, by simp⟩, ⟨by omega, by simp⟩⟩
  | p :: ps, a, 0, _, _ => by
    unfold sums
    rw [gS0]
    exact ⟨⟨by omega, by simp⟩, ⟨by omega, by simp⟩, ⟨by omega, by simp⟩⟩
  | p :: ps, a, i + 1, hp, hi => by
    obtain ⟨h1, h2, h3⟩ := sums_bd hC ps (addT C a p) i (fun q hq => hp q (List.mem_cons_of_mem _ hq)) (by simpa using hi)
    have pk := hp p (List.mem_cons_self ..)
    have b1 := sc_bd pk.1 hC
    have b2 := sc_bd pk.2.1 hC
    have b3 := sc_bd pk.2.2.1 hC
    unfold sums
    rw [gSs]
    unfold addT at h1 h2 h3
    exact ⟨h1.succ (by simp only; omega) (by simp only; omega), h2.succ (by simp only; omega) (by simp only; omega), h3.succ (by simp only; omega) (by simp only; omega)⟩
theorem sums_mono {C : Int} (hC : 0 < C) : ∀ (ps : List Pc) (a : T3) (i j : Nat), (∀ p ∈ ps, PcOk p) → i ≤ j → j ≤ ps.length → (gS (sums C a ps) i).2.1 ≤ (gS (sums C a ps) j).2.1 ∧ (gS (sums C a ps) i).2.2 ≤ (gS (sums C a ps) j).2.2
  | ps, a, 0, j, hp, _, hj => by
    obtain ⟨_, h2, h3⟩ := sums_bd hC ps a j hp hj
    have e : gS (sums C a ps) 0 = a := by cases ps <;> rfl
    rw [e]
    exact ⟨h2.1, h3.1⟩
  | [], a, i + 1, j, hp, hij, hj => by simp at hj; omega
  | p :: ps, a, i + 1, 0, hp, hij, hj => by omega
  | p :: ps, a, i + 1, j + 1, hp, hij, hj => by
    unfold sums
    rw [gSs, gSs]
    exact sums_mono hC ps _ i j (fun q hq => hp q (List.mem_cons_of_mem _ hq)) (by omega) (by simpa using hj)
theorem pB : 1000000000 * 2 ^ 1500 ≤ BB := by
  unfold BB
  refine Nat.le_trans (Nat.mul_le_mul_right _ (show 1000000000 ≤ 2 ^ 30 by decide)) ?_
  rw [← Nat.pow_add]
  exact Nat.pow_le_pow_right (by decide) (by decide)
theorem scOk {ps : List Pc} {r : Fr} (hp : ∀ p ∈ ps, PcOk p) (hr : FrOk r) (hl : ps.length ≤ 400) : ScOk (sums (com r.2 ps) (0, 0, 0) ps) (sc (com r.2 ps) r) ps.length := by
  have hc := com_ok (CmOk.of hr.2.2.1 hr.2.2.2.1) hp
  have hlt := hc.lt
  have pb := pB
  generalize com r.2 ps = C at *
  have hC := hc.1
  have hC2 : C = (C.natAbs : Int) := by omega
  generalize 2 ^ 1500 = W at *
  have rb := sc_bd hr hC
  have b0 : 0 < BB := by have := BB3; omega
  refine ⟨sums_len C ps _, hl, fun i => ?_, fun i j hij hj => sums_mono hC ps _ i j hp hij hj, rb.1, by omega⟩
  by_cases hi : i ≤ ps.length
  · obtain ⟨h1, h2, h3⟩ := sums_bd hC ps (0, 0, 0) i hp hi
    have q : (i : Int) * (1000000 * C) ≤ 400 * (1000000 * C) := Int.mul_le_mul_of_nonneg_right (by omega) (by omega)
    obtain ⟨h1, h1'⟩ := h1
    obtain ⟨h2, h2'⟩ := h2
    obtain ⟨h3, h3'⟩ := h3
    simp only at h1 h1' h2 h2' h3 h3'
    refine ⟨h1, by omega, h2, by omega, h3, by omega⟩
  · have e : gS (sums C (0, 0, 0) ps) i = (0, 0, 0) := by
      unfold gS
      rw [List.getD_eq_getElem?_getD, List.getElem?_eq_none (by rw [sums_len]; omega)]
      rfl
    rw [e]
    simp only
    refine ⟨by omega, b0, by omega, b0, by omega, b0⟩
end K77

set_option Elab.async false
set_option linter.all false
set_option maxRecDepth 100000
set_option maxHeartbeats 1000000
namespace K77
open PySem PySem.Spec PyProof.Rows L2 Z
theorem rng5 : rngD 0 5 = [.int 0, .int 1, .int 2, .int 3, .int 4] := by rfl
theorem hp9 : powG (.int 10) (.int 9) = some (.dat (.int 1000000000)) := by unfold powG; simp
theorem below_ok {o : OC} {m : Int} (P : PoolOk o) (hm : 0 < m) (hm2 : m.natAbs < 2 ^ 63) : ∃ k o', m__law_below o [.int m] = some (.dat (.int k), o') ∧ 0 ≤ k ∧ k < m ∧ PoolOk o' := by
  obtain ⟨k1, o1, h1, a1, b1, P1⟩ := take_ok (m := 1000000) P (by decide) (by decide)
  obtain ⟨k2, o2, h2, a2, b2, P2⟩ := take_ok (m := 1000000) P1 (by decide) (by decide)
  obtain ⟨k3, o3, h3, a3, b3, P3⟩ := take_ok (m := 1000000) P2 (by decide) (by decide)
  obtain ⟨k4, o4, h4, a4, b4, P4⟩ := take_ok (m := 1000000) P3 (by decide) (by decide)
  obtain ⟨k5, o5, h5, a5, b5, P5⟩ := take_ok (m := 1000000) P4 (by decide) (by decide)
  have hmul : ∀ i : Int, okMul i 1000000 = true := fun i => okMul_r (by decide)
  exact ⟨(((((0 * 1000000 + k1) * 1000000 + k2) * 1000000 + k3) * 1000000 + k4) * 1000000 + k5) % m, o5, by simp [m__law_below, b__law_below, rng5, s_for1, l__law_below_1, hp6, h1, h2, h3, h4, h5, hmul, hm], Int.emod_nonneg _ (by omega), Int.emod_lt_of_pos _ hm, P5⟩
/-- the turns as they are given -/
def TnOk (t : List (Option Int)) : Prop := ∀ x ∈ t, ∀ c, x = some c → 0 ≤ c ∧ c ≤ 1000000000
theorem turns_ok {o : OC} {n : Nat} (P : PoolOk o) (hn : n ≤ 400) : ∃ t o', m__law_turn_costs o [.int (n : Int)] = some (.dat (.tup (t.map oi)), o') ∧ t.length = n ∧ TnOk t ∧ PoolOk o' := by
  obtain ⟨d, o1, h1, hd, P1⟩ := pick_ok (ds := [.int 1, .int 5, .int 1000, .int 1000000001]) P (by simp) (by simp)
  obtain ⟨top, rfl, ht1, ht2⟩ : ∃ top : Int, d = .int top ∧ 0 < top ∧ top ≤ 1000000001 := by
    simp only [List.mem_cons, List.mem_nil_iff, or_false] at hd
    rcases hd with rfl | rfl | rfl | rfl <;> exact ⟨_, rfl, by decide, by decide⟩
  obtain ⟨acc', env', h2, o2, t, he, ha, hl, ht, P2⟩ := lcGo_rule (i := 3) (f := e__law_turn_costs_1)
    (fun ds acc env => ∃ o t, env = [some (.par o), some (.dat (.int (n : Int))), some (.dat (.int top)), none] ∧ acc = t.map oi ∧ t.length + ds.length = n ∧ TnOk t ∧ PoolOk o)
    (by
      rintro d ds acc env ⟨o, t, rfl, rfl, hl, ht, P⟩
      refine ⟨by simp, ?_⟩
      obtain ⟨k1, o1, q1, a1, b1, P1⟩ := take_ok (m := 6) P (by decide) (by decide)
      have key : ∀ (x : Option Int) (o' : OC), (∀ c, x = some c → 0 ≤ c ∧ c ≤ 1000000000) → PoolOk o' → ∃ o'' t', ([some (.par o'), some (.dat (.int (n : Int))), some (.dat (.int top)), none] : En) = [some (.par o''), some (.dat (.int (n : Int))), some (.dat (.int top)), none] ∧ t.map oi ++ [oi x] = t'.map oi ∧ t'.length + ds.length = n ∧ TnOk t' ∧ PoolOk o'' := fun x o' hx P' =>
        ⟨o', t ++ [x], rfl, by simp, by simp only [List.length_cons, List.length_append, List.length_nil] at hl ⊢; omega, fun y hy c hc => by
          rcases List.mem_append.mp hy with z | z
          · exact ht y z c hc
          · rw [List.mem_singleton.mp z] at hc; exact hx c hc, P'⟩
      by_cases c : k1 = 0
      · subst c
        refine ⟨.dat .non, [some (.par o1), some (.dat (.int (n : Int))), some (.dat (.int top)), some (.dat d)], .non, _, ?_, rfl, key none o1 (fun c h => by cases h) P1⟩
        simp [e__law_turn_costs_1, q1]
      · obtain ⟨k2, o2, q2, a2, b2, P2⟩ := below_ok (m := top) P1 ht1 (by omega)
        refine ⟨.dat (.int k2), [some (.par o2), some (.dat (.int (n : Int))), some (.dat (.int top)), some (.dat d)], .int k2, _, ?_, rfl, key (some k2) o2 (fun c h => by cases h; omega) P2⟩
        simp [e__law_turn_costs_1, q1, c, q2])
    (rngD 0 n) [] [some (.par o1), some (.dat (.int (n : Int))), some (.dat (.int top)), none] ⟨o1, [], rfl, rfl, by rw [rngD_length]; simp, fun x hx => (nomatch hx), P1⟩
  subst he
  subst ha
  have g1 : n < 2305843009213693952 := by omega
  have g2 : n ≤ 16777215 := by omega
  refine ⟨t, o2, ?_, by simpa using hl, ht, P2⟩
  simp [m__law_turn_costs, b__law_turn_costs, hp9, h1, g1, g2, rngD_length, h2]
theorem listed_non {n : Nat} : m__law_listed (n + 1) [.non] = some (.dat .non) := by
  unfold m__law_listed
  simp [b__law_listed, kindD, okTy, isTy]
def tnD (b : Bool) (t : List (Option Int)) : Z.D := wrap b (t.map oi)
theorem given_tn {o : OC} {t : List (Option Int)} (P : PoolOk o) (hl : t.length ≤ 400) : ∃ b tt o', m__law_given o [.tup (t.map oi)] = some (tt, o') ∧ fz tt.rv = .dat (tnD b t) ∧ PoolOk o' := by
  obtain ⟨k1, o1, h1, a1, b1, P1⟩ := take_ok (m := 3) P (by decide) (by decide)
  by_cases c : k1 = 0
  · subst c
    have := listed_tup (n := 4) (ds := t.map oi) (fun d => d) (by simp; omega) (fun d hd => by
      obtain ⟨x, _, rfl⟩ := List.mem_map.mp hd
      cases x with
      | none => exact ⟨_, listed_non, rfl⟩
      | some i => exact ⟨_, listed_int, rfl⟩)
    have e : (t.map oi).map (fun d => d) = t.map oi := by simp
    rw [e] at this
    exact ⟨true, .own (.lst (t.map oi)), o1, by simp [m__law_given, b__law_given, h1, this], rfl, P1⟩
  · exact ⟨false, .dat (.tup (t.map oi)), o1, by simp [m__law_given, b__law_given, h1, c], rfl, P1⟩
end K77

set_option Elab.async false
set_option linter.all false
set_option maxRecDepth 100000
set_option maxHeartbeats 1000000
namespace K77
open PySem PySem.Spec PyProof.Rows L2 Z
@[simp] theorem s_chn3 {g g' g'' : Z.D → Z.D → Option Bool} {fa fb fc fd : Fe} {env : En} : chn3 g g' g'' fa fb fc fd env = ((fa env).bind fun p => (fb p.2).bind fun q => (rd q.2 (fz p.1)).bind fun d => (rd q.2 (fz q.1)).bind fun e => (g d e).bind fun r =>
    if r = true then (fc q.2).bind fun s => (rd s.2 (fz q.1)).bind fun e' => (rd s.2 (fz s.1)).bind fun h => (g' e' h).bind fun r' =>
      if r' = true then (fd s.2).bind fun t => (rd t.2 (fz s.1)).bind fun h' => (rd t.2 (fz t.1)).bind fun m => (g'' h' m).bind fun r2 => some (r2, t.2) else some (false, s.2) else some (false, q.2)) := rfl
def pgsD (lines : Z.D) (n : Nat) (tn : Z.D) (l m : Int) (fr : List Z.D) : Z.D := .obj "Pages" ["lines", "many", "turns", "least", "most", "_from"] [lines, .int n, tn, .int l, .int m, .lst fr]
section
variable {env : En} {c f : Str} {d d0 : Z.D} {ns : List Str} {fs : List Fv}
@[simp] theorem s_selfS : selfS c f env = (selfD c f env).bind fun r => some (r, env) := rfl
theorem selfL : selfD "Pages" "lines" (some (.slf "Pages" (("lines" : Str) :: ns) (.dat d :: fs)) :: env) = some (.dat d) := by rfl
theorem selfM : selfD "Pages" "many" (some (.slf "Pages" (("lines" : Str) :: "many" :: ns) (.dat d0 :: .dat d :: fs)) :: env) = some (.dat d) := by rfl
end
theorem n1 : ¬ ("many" : Str) = "lines" := by decide +kernel
theorem n2 : ¬ ("turns" : Str) = "lines" := by decide +kernel
theorem n3 : ¬ ("turns" : Str) = "many" := by decide +kernel
theorem n4 : ¬ ("least" : Str) = "lines" := by decide +kernel
theorem n5 : ¬ ("least" : Str) = "many" := by decide +kernel
theorem n6 : ¬ ("least" : Str) = "turns" := by decide +kernel
theorem n7 : ¬ ("most" : Str) = "lines" := by decide +kernel
theorem n8 : ¬ ("most" : Str) = "many" := by decide +kernel
theorem n9 : ¬ ("most" : Str) = "turns" := by decide +kernel
theorem n10 : ¬ ("most" : Str) = "least" := by decide +kernel
theorem n11 : ¬ ("_from" : Str) = "lines" := by decide +kernel
theorem n12 : ¬ ("_from" : Str) = "many" := by decide +kernel
theorem n13 : ¬ ("_from" : Str) = "turns" := by decide +kernel
theorem n14 : ¬ ("_from" : Str) = "least" := by decide +kernel
theorem n15 : ¬ ("_from" : Str) = "most" := by decide +kernel
theorem whole_int {i : Int} : m_is_whole [.int i] = some (.dat (.bl true)) := by simp [m_is_whole, b_is_whole, kindD, okTy, isTy]
theorem number_ok {i m : Int} (h : 0 ≤ i) (h2 : i < m) : m_is_number [.int i, .int m] = some (.dat (.bl true)) := by simp [m_is_number, b_is_number, whole_int, h, h2]
theorem rng0 (n : Nat) : rngD 0 n = (List.range n).map nD := by
  unfold rngD
  refine List.map_congr_left fun k _ => ?_
  show Z.D.int ((0 : Int) + (k : Int)) = Z.D.int (k : Int)
  congr 1; omega
theorem pages_ok {b b2 : Bool} {ps : List Pc} {r : Fr} {t : List (Option Int)} {l m : Int} (hp : ∀ p ∈ ps, PcOk p) (hr : FrOk r) (hr0 : 1 ≤ r.1) (hl0 : 1 ≤ ps.length) (hl : ps.length ≤ 400) (ht : t.length = ps.length) (htn : TnOk t) (h1 : 1 ≤ l) (h2 : l ≤ m) (h3 : m ≤ 12) :
    m_Pages [psD b ps, frD false r, tnD b2 t, .int l, .int m] = some (([("lines" : Str), "many", "turns", "least", "most", "_from"] : List Str),
      ([linesD ps.length (sc (com r.2 ps) r) (sums (com r.2 ps) (0, 0, 0) ps), .int ps.length, tnD b2 t, .int l, .int m, .lst ((rowsF (sums (com r.2 ps) (0, 0, 0) ps) (sc (com r.2 ps) r) ps.length).map rowD)] : List Z.D)) := by
  have hL := lines_ok (b := b) hp hr hr0 hl0 hl
  have hS := scOk hp hr hl
  generalize sums (com r.2 ps) (0, 0, 0) ps = S at *
  generalize sc (com r.2 ps) r = R at *
  have hob : Z.D.obj "Lines" ["many", "room", "_sums"] [.int ps.length, .int R, .lst (S.map t3D)] = linesD ps.length R S := rfl
  have hm1 : ¬ ("from_piece" : Str) = "many" := by decide +kernel
  have hm2 : ¬ ("from_piece" : Str) = "room" := by decide +kernel
  have hm3 : ¬ ("from_piece" : Str) = "_sums" := by decide +kernel
  have hmd : methD "Lines" "from_piece" (linesD ps.length R S) = true := by simp [linesD, hm1, hm2, hm3]
  generalize hA : psD b ps = A at *
  generalize hB : frD false r = B at *
  -- the two comprehensions
  have c1 : ∀ (s0 : Sl), (∃ ns fs, s0 = .slf "Pages" ns fs) → lcS (seqI (vS 3)) (nmB 6) yesT e_Pages_1 [6] [some s0, some (.dat A), some (.dat B), some (.dat (tnD b2 t)), some (.dat (.int l)), some (.dat (.int m)), none, none] =
      some (.own (.lst ((t.map oi).map fun _ => .bl true)), [some s0, some (.dat A), some (.dat B), some (.dat (tnD b2 t)), some (.dat (.int l)), some (.dat (.int m)), none, none]) := fun s0 _ => by
    refine lcS_map (ds := t.map oi) (fun _ => .bl true) ?_ (by simp; omega) (.inl rfl) (fun d hd => ?_)
    · cases b2 <;> simp [tnD]
    · obtain ⟨x, hx, rfl⟩ := List.mem_map.mp hd
      cases x with
      | none => exact ⟨.dat (.bl true), by simp [e_Pages_1], rfl⟩
      | some c =>
        obtain ⟨q1, q2⟩ := htn _ hx c rfl
        have q3 := number_ok (i := c) (m := 1000000001) q1 (by omega)
        exact ⟨.dat (.bl true), by simp [e_Pages_1, q3], rfl⟩
  have c2 : ∀ (ns : List Str) (fs : List Fv), lcS (rngI1 (consL (selfS "Pages" "many") nilL)) (nmB 7) yesT e_Pages_2 [7] [some (.slf "Pages" (("lines" : Str) :: "many" :: ns) (.dat (linesD ps.length R S) :: .dat (.int ps.length) :: fs)), some (.dat A), some (.dat B), some (.dat (tnD b2 t)), some (.dat (.int l)), some (.dat (.int m)), none, none] =
      some (.own (.lst ((rowsF S R ps.length).map rowD)), [some (.slf "Pages" (("lines" : Str) :: "many" :: ns) (.dat (linesD ps.length R S) :: .dat (.int ps.length) :: fs)), some (.dat A), some (.dat B), some (.dat (tnD b2 t)), some (.dat (.int l)), some (.dat (.int m)), none, none]) := fun ns fs => by
    have g1 : ps.length < 2305843009213693952 := by omega
    have k := lcS_map (fi := rngI1 (consL (selfS "Pages" "many") nilL)) (i := 7) (f := e_Pages_2) (env := [some (.slf "Pages" (("lines" : Str) :: "many" :: ns) (.dat (linesD ps.length R S) :: .dat (.int ps.length) :: fs)), some (.dat A), some (.dat B), some (.dat (tnD b2 t)), some (.dat (.int l)), some (.dat (.int m)), none, none])
      (env1 := [some (.slf "Pages" (("lines" : Str) :: "many" :: ns) (.dat (linesD ps.length R S) :: .dat (.int ps.length) :: fs)), some (.dat A), some (.dat B), some (.dat (tnD b2 t)), some (.dat (.int l)), some (.dat (.int m)), none, none])
      (ds := (List.range ps.length).map nD) (fun d => match d with | .int i => rowD (rowF S R ps.length i.toNat) | d => d) (by simp [selfM, g1, rng0]) (by simp; omega) (.inl rfl) (fun d hd => by
        obtain ⟨i, hi, rfl⟩ := List.mem_map.mp hd
        have hi := List.mem_range.mp hi
        have hf := from_ok hS (Nat.le_of_lt hi)
        exact ⟨.own (.lst ((rowF S R ps.length i).map eD)), by simp [-s_methD, e_Pages_2, selfL, hmd, nD, hf], rfl⟩)
    rw [k]
    congr 4
    unfold rowsF
    rw [List.map_map, List.map_map]
    exact List.map_congr_left fun i _ => rfl
  have hb : blsOf ((t.map oi).map fun _ => Z.D.bl true) = some (t.map fun _ => true) := by
    have q := blsOf_map (t.map fun _ => true)
    rw [List.map_map] at q ⊢
    exact q
  have c1' := c1
  have hle : l ≤ 12 := by omega
  cases b2
  · have hlt : (t.length : Int) = (ps.length : Int) := by omega
    rw [List.map_map] at hb
    simp only [List.map_map] at c1
    simp only [tnD, wrap_f] at c1 c2 ⊢
    simp [-s_fldD, -s_lcS, m_Pages, Z.runI, startI, finI, resAll, resF, b_Pages, hL, hob, kindD, okTy, isTy, tysOf, selfL, selfM, hlt, n1, n2, n3, n4, n5, n6, n7, n8, n9, n10, n11, n12, n13, n14, n15, c1, c2, hb, whole_int, h1, h2, h3]
  · have hlt : (t.length : Int) = (ps.length : Int) := by omega
    rw [List.map_map] at hb
    simp only [List.map_map] at c1
    simp only [tnD, wrap_t] at c1 c2 ⊢
    simp [-s_fldD, -s_lcS, m_Pages, Z.runI, startI, finI, resAll, resF, b_Pages, hL, hob, kindD, okTy, isTy, tysOf, selfL, selfM, hlt, n1, n2, n3, n4, n5, n6, n7, n8, n9, n10, n11, n12, n13, n14, n15, c1, c2, hb, whole_int, h1, h2, h3]
end K77

set_option Elab.async false
set_option linter.all false
set_option maxRecDepth 100000
set_option maxHeartbeats 1000000
namespace K77
open PySem PySem.Spec PyProof.Rows L2 Z
section
variable {α : Type}
def gO (f : List (Option α)) (i : Nat) : Option α := f.getD i none
end
def row (rs : List (List Ed)) (i : Nat) : List Ed := rs.getD i []
theorem at_O {f : List (Option Int)} {i : Nat} (h : i < f.length) : atI (f.map oi) (i : Int) = some (oi (gO f i)) := by
  refine at_nat ?_
  rw [List.getElem?_map, List.getElem?_eq_getElem h]
  unfold gO
  rw [List.getD_eq_getElem?_getD, List.getElem?_eq_getElem h]
  rfl
theorem at_row {rs : List (List Ed)} {i : Nat} (h : i < rs.length) : atI (rs.map rowD) (i : Int) = some (rowD (row rs i)) := by
  refine at_nat ?_
  rw [List.getElem?_map, List.getElem?_eq_getElem h]
  unfold row
  rw [List.getD_eq_getElem?_getD, List.getElem?_eq_getElem h]
  rfl
/-- a place, an option to go on with what it costs -/
abbrev Pl := Nat × Nat
abbrev Op := Pl × Int
def plD (p : Pl) : Z.D := .tup [.int (p.1 : Int), .int (p.2 : Int)]
def opD (o : Op) : Z.D := .tup [plD o.1, .int o.2]
section
variable (t : List (Option Int)) (rs : List (List Ed)) (l m : Nat)
def turnF (p : Pl) : Option Int := if l ≤ p.2 ∧ p.1 < rs.length then gO t p.1 else none
def lnsF (p : Pl) : List Op := if p.1 = rs.length ∨ p.2 = m then [] else (row rs p.1).map fun e => ((e.1.toNat, p.2 + 1), e.2)
def folF (p : Pl) : List Op := (match turnF t rs l p with | none => [] | some c => [((p.1, 0), c)]) ++ lnsF rs m p
end
section
variable {lines : Z.D} {t : List (Option Int)} {rs : List (List Ed)} {l m : Nat} {b : Bool}
def pgD (lines : Z.D) (b : Bool) (t : List (Option Int)) (rs : List (List Ed)) (l m : Nat) : Z.D := pgsD lines rs.length (tnD b t) l m (rs.map rowD)
@[simp] theorem pg_many : fldD "Pages" "many" (pgD lines b t rs l m) = some (.int (rs.length : Int)) := by rfl
@[simp] theorem pg_turns : fldD "Pages" "turns" (pgD lines b t rs l m) = some (tnD b t) := by rfl
@[simp] theorem pg_least : fldD "Pages" "least" (pgD lines b t rs l m) = some (.int (l : Int)) := by rfl
@[simp] theorem pg_most : fldD "Pages" "most" (pgD lines b t rs l m) = some (.int (m : Int)) := by rfl
@[simp] theorem pg_from : fldD "Pages" "_from" (pgD lines b t rs l m) = some (.lst (rs.map rowD)) := by rfl
theorem pg_meth {x : Str} (h : x ∉ ([("lines" : Str), "many", "turns", "least", "most", "_from"] : List Str)) : methD "Pages" x (pgD lines b t rs l m) = true := by
  show (decide (("Pages" : Str) = "Pages") && decide (x ∉ _)) = true
  rw [decide_eq_true rfl, decide_eq_true h]; rfl
theorem turn_ok (ht : t.length = rs.length) {p : Pl} (hp : p.1 ≤ rs.length) : m_Pages_turn [pgD lines b t rs l m, plD p] = some (.dat (oi (turnF t rs l p))) := by
  unfold turnF
  by_cases c1 : l ≤ p.2
  · have c1' : (l : Int) ≤ (p.2 : Int) := by omega
    by_cases c2 : p.1 < rs.length
    · have ha := at_O (f := t) (i := p.1) (by omega)
      rw [if_pos ⟨c1, c2⟩]
      cases b <;> simp [-s_fldD, m_Pages_turn, b_Pages_turn, plD, c1, c2, tnD, ha]
    · rw [if_neg (fun z => c2 z.2)]
      simp [-s_fldD, m_Pages_turn, b_Pages_turn, plD, c1, c2]
  · rw [if_neg (fun z => c1 z.1)]
    simp [-s_fldD, m_Pages_turn, b_Pages_turn, plD, c1]
/-- the rows lead on -/
def EdOk (rs : List (List Ed)) : Prop := ∀ i, ∀ e ∈ row rs i, ∃ j : Nat, e.1 = (j : Int) ∧ i < j ∧ j ≤ rs.length
theorem lns_ok (ho : EdOk rs) (hlen : ∀ i, (row rs i).length ≤ 1000) {p : Pl} (hp : p.1 ≤ rs.length) : m_Pages_by_lines [pgD lines b t rs l m, plD p] = some (.own (.lst ((lnsF rs m p).map opD))) := by
  unfold lnsF
  by_cases c1 : p.1 = rs.length
  · have c1' : (p.1 : Int) = (rs.length : Int) := by omega
    rw [if_pos (.inl c1)]
    simp [-s_fldD, -s_lcS, m_Pages_by_lines, b_Pages_by_lines, plD, c1]
  · by_cases c2 : p.2 = m
    · rw [if_pos (.inr c2)]
      have c1' : ¬ (p.1 : Int) = (rs.length : Int) := by omega
      simp [-s_fldD, -s_lcS, m_Pages_by_lines, b_Pages_by_lines, plD, c1', c2]
    · rw [if_neg (fun z => z.elim c1 c2)]
      have ha := at_row (rs := rs) (i := p.1) (by omega)
      have k := lcS_mapG (fi := seqI (bin2 ixG (fldS "Pages" "_from" (vS 0)) (vS 2))) (gb := tupB 2 (consB (nmB 4) (consB (nmB 5) nilB))) (f := e_Pages_by_lines_1) (vs := [4, 5])
        (env := [some (.dat (pgD lines b t rs l m)), some (.dat (plD p)), some (.dat (.int (p.1 : Int))), some (.dat (.int (p.2 : Int))), none, none]) (env1 := [some (.dat (pgD lines b t rs l m)), some (.dat (plD p)), some (.dat (.int (p.1 : Int))), some (.dat (.int (p.2 : Int))), none, none])
        (ds := (row rs p.1).map eD) (fun d => match d with | .tup [.int i, .int j] => .tup [.tup [.int i, .int (p.2 + 1)], .int j] | d => d) (by simp [-s_fldD, ha, rowD]) (by simp; have := hlen p.1; omega) rfl (fun d hd => by
          obtain ⟨e, he, rfl⟩ := List.mem_map.mp hd
          exact ⟨[some (.dat (pgD lines b t rs l m)), some (.dat (plD p)), some (.dat (.int (p.1 : Int))), some (.dat (.int (p.2 : Int))), some (.dat (.int e.1)), some (.dat (.int e.2))], .dat (.tup [.tup [.int e.1, .int (p.2 + 1)], .int e.2]), by simp [eD], by simp [e_Pages_by_lines_1], rfl, by simp⟩)
      have e1 : ((row rs p.1).map eD).map (fun d => match d with | .tup [.int i, .int j] => .tup [.tup [.int i, .int (p.2 + 1)], .int j] | d => d) = (((row rs p.1).map fun e => ((e.1.toNat, p.2 + 1), e.2)) : List Op).map opD := by
        rw [List.map_map, List.map_map]
        refine List.map_congr_left fun e he => ?_
        obtain ⟨j, h1, _⟩ := ho p.1 e he
        show Z.D.tup [.tup [.int e.1, .int (p.2 + 1)], .int e.2] = .tup [.tup [.int ((e.1.toNat : Nat) : Int), .int ((p.2 + 1 : Nat) : Int)], .int e.2]
        rw [h1]
        rfl
      rw [e1, List.map_map] at k
      simp only [plD] at k
      have c1' : ¬ (p.1 : Int) = (rs.length : Int) := by omega
      have c2' : ¬ (p.2 : Int) = (m : Int) := by omega
      simp [-s_fldD, -s_lcS, m_Pages_by_lines, b_Pages_by_lines, plD, c1', c2', k]
theorem fol_ok (ht : t.length = rs.length) (ho : EdOk rs) (hlen : ∀ i, (row rs i).length ≤ 1000) {p : Pl} (hp : p.1 ≤ rs.length) : m_Pages_following [pgD lines b t rs l m, plD p] = some (.own (.lst ((folF t rs l m p).map opD))) := by
  have h1 := turn_ok (lines := lines) (b := b) (l := l) (m := m) ht hp
  have h2 := lns_ok (lines := lines) (b := b) (t := t) (l := l) (m := m) ho hlen hp
  have m1 := pg_meth (lines := lines) (b := b) (t := t) (rs := rs) (l := l) (m := m) (x := "turn") (by decide +kernel)
  have m2 := pg_meth (lines := lines) (b := b) (t := t) (rs := rs) (l := l) (m := m) (x := "by_lines") (by decide +kernel)
  have hl2 : (lnsF rs m p).length ≤ 1000 := by
    unfold lnsF
    split
    · simp
    · simpa using hlen p.1
  unfold folF
  cases hc : turnF t rs l p with
  | none =>
    rw [hc] at h1
    have g : (lnsF rs m p).length ≤ 16777216 := by omega
    simp only [plD] at h1 h2
    simp [-s_fldD, -s_methD, m_Pages_following, b_Pages_following, plD, m1, m2, h1, h2, g]
  | some c =>
    rw [hc] at h1
    have g : 1 + (lnsF rs m p).length ≤ 16777216 := by omega
    simp only [plD] at h1 h2
    simp [-s_fldD, -s_methD, m_Pages_following, b_Pages_following, plD, m1, m2, h1, h2, g, opD]
end
end K77

set_option Elab.async false
set_option linter.all false
set_option maxRecDepth 100000
set_option maxHeartbeats 1000000
namespace K77
open PySem PySem.Spec PyProof.Rows L2 Z
section
variable {lines : Z.D} {t : List (Option Int)} {rs : List (List Ed)} {l m : Nat} {b : Bool}
def plRow (m a : Nat) : List Pl := (List.range (m + 1)).map fun j => (a, m - j)
def plsF (n m : Nat) : List Pl := (List.range (n + 1)).flatMap (plRow m)
theorem rngC_down {m : Nat} : rngC (m : Int) (-1) (m + 1) = (List.range (m + 1)).map fun j => nD (m - j) := by
  unfold rngC
  refine List.map_congr_left fun k hk => ?_
  have := List.mem_range.mp hk
  show Z.D.int ((m : Int) + (k : Int) * -1) = Z.D.int ((m - k : Nat) : Int)
  congr 1
  omega
theorem places_ok (hn : rs.length ≤ 400) (hm : m ≤ 12) : m_Pages_places [pgD lines b t rs l m] = some (.own (.lst ((plsF rs.length m).map plD))) := by
  have g1 : (m : Int).natAbs < 2305843009213693952 := by omega
  have g3 : ((m : Int) - -1).toNat = m + 1 := by omega
  have step : ∀ (a : Nat) (acc : List Z.D), acc.length ≤ 100000 → l_Pages_places_1 [some (.dat (pgD lines b t rs l m)), some (.own (.lst acc)), some (.dat (.int (a : Int))), none] = some (.nx [some (.dat (pgD lines b t rs l m)), some (.own (.lst (acc ++ (plRow m a).map plD))), some (.dat (.int (a : Int))), none]) := by
    intro a acc hacc
    have k := lcS_map (fi := rngI3 (consL (fldS "Pages" "most" (vS 0)) (consL (un1 negG (cS (.int 1))) (consL (un1 negG (cS (.int 1))) nilL)))) (i := 3) (f := e_Pages_places_1)
      (env := [some (.dat (pgD lines b t rs l m)), some (.own (.lst acc)), some (.dat (.int (a : Int))), none]) (env1 := [some (.dat (pgD lines b t rs l m)), some (.own (.lst acc)), some (.dat (.int (a : Int))), none])
      (ds := (List.range (m + 1)).map fun j => nD (m - j)) (fun d => .tup [.int (a : Int), d]) (by simp [-s_fldD, g1, g3, rngC_down]; omega) (by simp; omega) (.inl rfl) (fun d hd => by
        obtain ⟨j, _, rfl⟩ := List.mem_map.mp hd
        exact ⟨.dat (.tup [.int (a : Int), nD (m - j)]), by simp [e_Pages_places_1], rfl⟩)
    have e : ((List.range (m + 1)).map fun j => nD (m - j)).map (fun d => Z.D.tup [.int (a : Int), d]) = (plRow m a).map plD := by
      unfold plRow
      rw [List.map_map, List.map_map]
      exact List.map_congr_left fun j _ => rfl
    rw [e] at k
    have g : acc.length + (plRow m a).length ≤ 16777216 := by unfold plRow; simp; omega
    simp [-s_lcS, l_Pages_places_1, k, g]
  obtain ⟨env', h3, a, acc, y2, he, ha, hacc, hl⟩ := forS_nx (b := nmB 2) (f := l_Pages_places_1)
    (fun ds env => ∃ a acc y2, env = [some (.dat (pgD lines b t rs l m)), some (.own (.lst (acc : List Z.D))), y2, none] ∧ ds = ((List.range (rs.length + 1)).drop a).map nD ∧ acc = (((List.range (rs.length + 1)).take a).flatMap (plRow m)).map plD ∧ acc.length ≤ 13 * a)
    (by
      rintro d ds env ⟨a, acc, y2, rfl, hds, hacc, hl⟩
      have ha : a < rs.length + 1 := by
        rcases Nat.lt_or_ge a (rs.length + 1) with h | h
        · exact h
        · rw [List.drop_of_length_le (by simpa using h)] at hds; cases hds
      rw [List.drop_eq_getElem_cons (by simpa using ha), List.getElem_range] at hds
      rw [List.map_cons] at hds
      injection hds with h1 h2
      subst h1
      refine ⟨_, _, rfl, step a acc (by omega), a + 1, acc ++ (plRow m a).map plD, _, rfl, h2, ?_, ?_⟩
      · rw [List.take_add_one, List.getElem?_range ha, List.flatMap_append, List.map_append, ← hacc]
        simp
      · rw [List.length_append, List.length_map]
        unfold plRow
        simp
        omega)
    (rngD 0 (rs.length + 1)) [some (.dat (pgD lines b t rs l m)), some (.own (.lst [])), none, none] ⟨0, [], none, rfl, by rw [rng0]; rfl, rfl, by simp⟩
  subst he
  have ha2 : rs.length + 1 ≤ a := by
    rcases Nat.lt_or_ge a (rs.length + 1) with h | h
    · rw [List.drop_eq_getElem_cons (by simpa using h)] at ha; cases ha
    · exact h
  rw [List.take_of_length_le (by simpa using ha2)] at hacc
  have g2 : ((rs.length : Int) + 1).natAbs < 2305843009213693952 := by omega
  have g4 : ((rs.length : Int) + 1).toNat = rs.length + 1 := by omega
  subst hacc
  simp [-s_fldD, m_Pages_places, b_Pages_places, g2, g4, h3, plsF]
end
end K77

set_option Elab.async false
set_option linter.all false
set_option maxRecDepth 100000
set_option maxHeartbeats 1000000
namespace K77
open PySem PySem.Spec PyProof.Rows L2 Z
abbrev Rk := Int × Int × Int
abbrev Ent := Rk × Option Pl
def rkD (r : Rk) : Z.D := .tup [.int r.1, .int r.2.1, .int r.2.2]
def bhD : Option Pl → Z.D
  | none => .non
  | some p => plD p
def entD (e : Ent) : Z.D := .tup [rkD e.1, bhD e.2]
def beD : Option Ent → Z.D
  | none => .non
  | some e => entD e
def keyP (p : Pl) : List Key := [.inl (p.1 : Int), .inl (p.2 : Int)]
theorem keyP_inj {p q : Pl} (h : keyP p = keyP q) : p = q := by
  unfold keyP at h
  injection h with h1 h2
  injection h2 with h2 _
  injection h1 with h1
  injection h2 with h2
  exact Prod.ext (by omega) (by omega)
def look {α : Type} (T : List (Pl × α)) (p : Pl) : Option α := (T.find? fun x => decide (x.1 = p)).map (·.2)
theorem look_val {α : Type} {g : α → Z.D} {p : Pl} : ∀ (T : List (Pl × α)), valZ (T.map fun x => keyP x.1) (T.map fun x => g x.2) (keyP p) = (look T p).map g
  | [] => rfl
  | x :: T => by
    have ih := look_val (g := g) (p := p) T
    unfold valZ look at ih ⊢
    rw [List.map_cons, List.map_cons, List.zip_cons_cons, List.find?_cons, List.find?_cons]
    by_cases c : x.1 = p
    · rw [decide_eq_true (show keyP x.1 = keyP p by rw [c]), decide_eq_true c]
      rfl
    · rw [decide_eq_false (fun z => c (keyP_inj z)), decide_eq_false c]
      exact ih
def lex3 (a b : Rk) : Bool := HT.lexLt [a.1, a.2.1, a.2.2] [b.1, b.2.1, b.2.2]
@[simp] theorem lt3_rk {a b c d e f : Int} : lt3G (.tup [.int a, .int b, .int c]) (.tup [.int d, .int e, .int f]) = some (HT.lexLt [a, b, c] [d, e, f]) := rfl
@[simp] theorem s_intb {b : Bool} : intG [.bl b] = some (.dat (.int (if b = true then 1 else 0))) := rfl
def mineF (p : Pl) (o : Op) (r : Rk) : Rk := (r.1 + o.2, r.2.1 + (if o.1.1 = p.1 then 1 else 0), r.2.2 + (if o.1.1 = p.1 then 0 else 1))
def stepB (T : List (Pl × Ent)) (p : Pl) (best : Option Ent) (o : Op) : Option Ent := match look T o.1 with
  | none => best
  | some e => match best with
    | none => some (mineF p o e.1, some o.1)
    | some b => if lex3 (mineF p o e.1) b.1 = true then some (mineF p o e.1, some o.1) else best
section
variable (t : List (Option Int)) (rs : List (List Ed)) (l m : Nat)
def startB (p : Pl) : Option Ent := if p.1 = rs.length ∧ 0 < p.2 then some ((0, 0, 0), none) else none
def bestB (T : List (Pl × Ent)) (p : Pl) : Option Ent := (folF t rs l m p).foldl (stepB T p) (startB rs p)
def stepT (T : List (Pl × Ent)) (p : Pl) : List (Pl × Ent) := match bestB t rs l m T p with
  | none => T
  | some e => T ++ [(p, e)]
def tabF : List (Pl × Ent) := (plsF rs.length m).reverse.foldl (stepT t rs l m) []
end
def tkD (T : List (Pl × Ent)) : OC := .dct (T.map fun x => keyP x.1) (T.map fun x => entD x.2)
section
variable {A : Z.D} {T : List (Pl × Ent)} {p : Pl}
theorem bb_1 {best : Option Ent} {o : Op} {x6 x7 x8 : Option Sl} : ∃ y6 y7 y8, l_best_behind_1 [some (.dat A), some (.own (tkD T)), some (.dat (plD p)), some (.dat (beD best)), some (.dat (plD o.1)), some (.dat (.int o.2)), x6, x7, x8] =
    some (.nx [some (.dat A), some (.own (tkD T)), some (.dat (plD p)), some (.dat (beD (stepB T p best o))), some (.dat (plD o.1)), some (.dat (.int o.2)), y6, y7, y8]) := by
  have hv : valZ (T.map fun x => keyP x.1) (T.map fun x => entD x.2) [.inl (o.1.1 : Int), .inl (o.1.2 : Int)] = (look T o.1).map entD := look_val T
  unfold tkD
  generalize (T.map fun x => keyP x.1) = ks at *
  generalize (T.map fun x => entD x.2) = ds at *
  unfold stepB
  cases hl : look T o.1 with
  | none =>
    rw [hl] at hv
    exact ⟨x6, x7, x8, by simp [l_best_behind_1, plD, hv, beD]⟩
  | some e =>
    rw [hl] at hv
    have hc : ((o.1.1 : Int) = (p.1 : Int)) = (o.1.1 = p.1) := propext ⟨fun z => by omega, fun z => by omega⟩
    refine ⟨some (.dat (rkD e.1)), some (.dat (.bl (decide (o.1.1 = p.1)))), some (.dat (rkD (mineF p o e.1))), ?_⟩
    by_cases c : o.1.1 = p.1
    · have cI : (o.1.1 : Int) = (p.1 : Int) := by omega
      cases best with
      | none => simp [l_best_behind_1, plD, hv, beD, entD, rkD, bhD, mineF, eq_true cI, eq_true c]
      | some b =>
        cases hx : lex3 (mineF p o e.1) b.1 with
        | true =>
          have hx' := hx
          simp only [lex3, mineF, if_pos c, Int.add_zero] at hx'
          have hx2 := hx
          simp only [mineF, if_pos c, Int.add_zero] at hx2
          simp [l_best_behind_1, plD, hv, beD, entD, rkD, bhD, mineF, eq_true cI, eq_true c, hx', hx2]
        | false =>
          have hx' := hx
          simp only [lex3, mineF, if_pos c, Int.add_zero] at hx'
          have hx2 := hx
          simp only [mineF, if_pos c, Int.add_zero] at hx2
          simp [l_best_behind_1, plD, hv, beD, entD, rkD, bhD, mineF, eq_true cI, eq_true c, hx', hx2]
    · cases best with
      | none => simp [l_best_behind_1, plD, hv, beD, entD, rkD, bhD, mineF, hc, c]
      | some b =>
        cases hx : lex3 (mineF p o e.1) b.1 with
        | true =>
          have hx' := hx
          simp only [lex3, mineF, if_neg c, Int.add_zero] at hx'
          have hx2 := hx
          simp only [mineF, if_neg c, Int.add_zero] at hx2
          simp [l_best_behind_1, plD, hv, beD, entD, rkD, bhD, mineF, hc, c, hx', hx2]
        | false =>
          have hx' := hx
          simp only [lex3, mineF, if_neg c, Int.add_zero] at hx'
          have hx2 := hx
          simp only [mineF, if_neg c, Int.add_zero] at hx2
          simp [l_best_behind_1, plD, hv, beD, entD, rkD, bhD, mineF, hc, c, hx', hx2]
end
end K77

set_option Elab.async false
set_option linter.all false
set_option maxRecDepth 100000
set_option maxHeartbeats 1000000
namespace K77
open PySem PySem.Spec PyProof.Rows L2 Z
theorem putZ_new {ks : List (List Key)} {xs : List Z.D} {k : List Key} {x : Z.D} (h : ∀ j ∈ ks, j ≠ k) : putZ ks xs k x = (ks ++ [k], xs ++ [x]) := by
  unfold putZ
  rw [if_neg]
  intro z
  obtain ⟨j, hj, e⟩ := List.any_eq_true.mp z
  exact h j hj (of_decide_eq_true e)
theorem plRow_nodup {m a : Nat} : (plRow m a).Nodup := by
  unfold plRow
  refine List.pairwise_map.mpr ?_
  refine List.Pairwise.imp_of_mem ?_ (List.nodup_range (n := m + 1))
  intro i j hi hj hne e
  have h1 := List.mem_range.mp hi
  have h2 := List.mem_range.mp hj
  injection e with _ e
  omega
theorem plsF_nodup {n m : Nat} : (plsF n m).Nodup := by
  unfold plsF
  refine List.pairwise_flatMap.mpr ⟨fun a _ => plRow_nodup, ?_⟩
  refine List.Pairwise.imp ?_ (List.nodup_range (n := n + 1))
  intro a b hne x hx y hy e
  unfold plRow at hx hy
  obtain ⟨i, _, rfl⟩ := List.mem_map.mp hx
  obtain ⟨j, _, rfl⟩ := List.mem_map.mp hy
  injection e with e _
  exact hne e
theorem plsF_mem {n m : Nat} {p : Pl} : p ∈ plsF n m ↔ p.1 ≤ n ∧ p.2 ≤ m := by
  unfold plsF plRow
  constructor
  · intro h
    obtain ⟨a, ha, h⟩ := List.mem_flatMap.mp h
    obtain ⟨j, hj, rfl⟩ := List.mem_map.mp h
    have := List.mem_range.mp ha
    exact ⟨by show a ≤ n; omega, by show m - j ≤ m; omega⟩
  · rintro ⟨h1, h2⟩
    refine List.mem_flatMap.mpr ⟨p.1, List.mem_range.mpr (by omega), List.mem_map.mpr ⟨m - p.2, List.mem_range.mpr (by omega), ?_⟩⟩
    exact Prod.ext rfl (by show m - (m - p.2) = p.2; omega)
theorem plsF_len {n m : Nat} : (plsF n m).length = (n + 1) * (m + 1) := by
  unfold plsF
  rw [List.length_flatMap]
  have : (List.range (n + 1)).map (fun a => (plRow m a).length) = (List.range (n + 1)).map fun _ => m + 1 := List.map_congr_left fun a _ => by unfold plRow; simp
  rw [this, List.map_const', List.sum_replicate_nat]
  simp
section
variable {A : Z.D} {T : List (Pl × Ent)} {p : Pl}
theorem bb_loop {os : List Op} {best : Option Ent} {x4 x5 x6 x7 x8 : Option Sl} : ∃ y4 y5 y6 y7 y8, forS (tupB 2 (consB (nmB 4) (consB (nmB 5) nilB))) l_best_behind_1 (os.map opD) [some (.dat A), some (.own (tkD T)), some (.dat (plD p)), some (.dat (beD best)), x4, x5, x6, x7, x8] =
    some (.nx [some (.dat A), some (.own (tkD T)), some (.dat (plD p)), some (.dat (beD (os.foldl (stepB T p) best))), y4, y5, y6, y7, y8]) := by
  obtain ⟨env', h, os', best', y4, y5, y6, y7, y8, he, h1, h2⟩ := forS_nx (b := tupB 2 (consB (nmB 4) (consB (nmB 5) nilB))) (f := l_best_behind_1)
    (fun ds env => ∃ (os' : List Op) (best' : Option Ent) (y4 y5 y6 y7 y8 : Option Sl), env = [some (.dat A), some (.own (tkD T)), some (.dat (plD p)), some (.dat (beD best')), y4, y5, y6, y7, y8] ∧ ds = os'.map opD ∧ os'.foldl (stepB T p) best' = os.foldl (stepB T p) best)
    (by
      rintro d ds env ⟨os', best', y4, y5, y6, y7, y8, rfl, h1, h2⟩
      cases os' with
      | nil => cases h1
      | cons o os' =>
        rw [List.map_cons] at h1
        injection h1 with h3 h4
        subst h3
        obtain ⟨z6, z7, z8, k⟩ := bb_1 (A := A) (T := T) (p := p) (best := best') (o := o) (x6 := y6) (x7 := y7) (x8 := y8)
        exact ⟨[some (.dat A), some (.own (tkD T)), some (.dat (plD p)), some (.dat (beD best')), some (.dat (plD o.1)), some (.dat (.int o.2)), y6, y7, y8], _, by simp [opD], k, os', stepB T p best' o, some (.dat (plD o.1)), some (.dat (.int o.2)), z6, z7, z8, rfl, h4, h2⟩)
    (os.map opD) [some (.dat A), some (.own (tkD T)), some (.dat (plD p)), some (.dat (beD best)), x4, x5, x6, x7, x8] ⟨os, best, x4, x5, x6, x7, x8, rfl, rfl, rfl⟩
  have e : os' = [] := by
    cases os' with
    | nil => rfl
    | cons _ _ => cases h1
  subst e
  rw [List.foldl_nil] at h2
  subst h2
  exact ⟨y4, y5, y6, y7, y8, by rw [h, he]⟩
end
section
variable {lines : Z.D} {t : List (Option Int)} {rs : List (List Ed)} {l m : Nat} {b : Bool}
theorem bb_2 (ht : t.length = rs.length) (ho : EdOk rs) (hlen : ∀ i, (row rs i).length ≤ 1000) {p : Pl} (hp : p.1 ≤ rs.length) {T : List (Pl × Ent)} (hT : T.length ≤ 100000) (hn : ∀ x ∈ T, x.1 ≠ p) {x3 x4 x5 x6 x7 x8 : Option Sl} :
    ∃ y3 y4 y5 y6 y7 y8, l_best_behind_2 [some (.dat (pgD lines b t rs l m)), some (.own (tkD T)), some (.dat (plD p)), x3, x4, x5, x6, x7, x8] =
    some (.nx [some (.dat (pgD lines b t rs l m)), some (.own (tkD (stepT t rs l m T p))), some (.dat (plD p)), y3, y4, y5, y6, y7, y8]) := by
  have hf := fol_ok (lines := lines) (b := b) (l := l) (m := m) ht ho hlen hp
  have m1 := pg_meth (lines := lines) (b := b) (t := t) (rs := rs) (l := l) (m := m) (x := "following") (by decide +kernel)
  obtain ⟨y4, y5, y6, y7, y8, k⟩ := bb_loop (A := pgD lines b t rs l m) (T := T) (p := p) (os := folF t rs l m p) (best := startB rs p) (x4 := x4) (x5 := x5) (x6 := x6) (x7 := x7) (x8 := x8)
  have c1 : ((p.1 : Int) = (rs.length : Int)) = (p.1 = rs.length) := propext ⟨fun z => by omega, fun z => by omega⟩
  have c2 : ((0 : Int) < (p.2 : Int)) = (0 < p.2) := propext ⟨fun z => by omega, fun z => by omega⟩
  refine ⟨some (.dat (beD (bestB t rs l m T p))), y4, y5, y6, y7, y8, ?_⟩
  have hP : ∀ e : Ent, putZ (T.map fun x => keyP x.1) (T.map fun x => entD x.2) [.inl (p.1 : Int), .inl (p.2 : Int)] (beD (some e)) = ((T ++ [(p, e)]).map (fun x => keyP x.1), (T ++ [(p, e)]).map (fun x => entD x.2)) := by
    intro e
    rw [putZ_new]
    · rw [List.map_append, List.map_append]; rfl
    · intro j hj
      obtain ⟨x, hx, rfl⟩ := List.mem_map.mp hj
      exact fun z => hn x hx (keyP_inj z)
  have pre : ∀ s : Fs, (seqS (asgS 3 (cS .non)) (seqS (iffS (andT (cmpT eqG (bin2 ixG (vS 2) (cS (.int 0))) (fldS "Pages" "many" (vS 0))) (cmpT gtG (bin2 ixG (vS 2) (cS (.int 1))) (cS (.int 0)))) (asgS 3 (tupS (consL (tupS (consL (cS (.int 0)) (consL (cS (.int 0)) (consL (cS (.int 0)) nilL)))) (consL (cS .non) nilL)))) doneS) s))
      [some (.dat (pgD lines b t rs l m)), some (.own (tkD T)), some (.dat (plD p)), x3, x4, x5, x6, x7, x8] =
      s [some (.dat (pgD lines b t rs l m)), some (.own (tkD T)), some (.dat (plD p)), some (.dat (beD (startB rs p))), x4, x5, x6, x7, x8] := by
    intro s
    unfold startB
    by_cases d1 : p.1 = rs.length
    · by_cases d2 : 0 < p.2
      · rw [if_pos ⟨d1, d2⟩]
        simp [-s_fldD, plD, beD, entD, rkD, bhD, eq_true d1, eq_true d2, c1, c2]
      · rw [if_neg (fun z => d2 z.2)]
        simp [-s_fldD, plD, beD, eq_true d1, d2, c1, c2]
    · rw [if_neg (fun z => d1 z.1)]
      simp [-s_fldD, plD, beD, d1, c1]
  unfold l_best_behind_2
  rw [pre]
  have k' := k
  simp only [plD] at k' hf
  unfold stepT bestB
  cases hb : (folF t rs l m p).foldl (stepB T p) (startB rs p) with
  | none =>
    rw [hb] at k'
    have i1 : isN (beD none) = true := rfl
    simp [-s_fldD, -s_methD, plD, m1, hf, k', i1]
  | some e =>
    rw [hb] at k'
    have hP' := hP e
    have g : T.length < 16777216 := by omega
    have i1 : isN (beD (some e)) = false := rfl
    unfold tkD at *
    simp only [List.map_append, List.map_cons, List.map_nil] at hP'
    simp [-s_fldD, -s_methD, plD, m1, hf, k', i1, hP', g]
end
end K77

set_option Elab.async false
set_option linter.all false
set_option maxRecDepth 100000
set_option maxHeartbeats 1000000
namespace K77
open PySem PySem.Spec PyProof.Rows L2 Z
section
variable {lines : Z.D} {t : List (Option Int)} {rs : List (List Ed)} {l m : Nat} {b : Bool}
theorem stepT_len {T : List (Pl × Ent)} {p : Pl} : (stepT t rs l m T p).length ≤ T.length + 1 := by
  unfold stepT
  split <;> simp
theorem stepT_keys {T : List (Pl × Ent)} {p : Pl} {x : Pl × Ent} (h : x ∈ stepT t rs l m T p) : x ∈ T ∨ x.1 = p := by
  unfold stepT at h
  split at h
  · exact .inl h
  · rcases List.mem_append.mp h with h | h
    · exact .inl h
    · right; rw [List.mem_singleton.mp h]
theorem bb_ok (ht : t.length = rs.length) (ho : EdOk rs) (hlen : ∀ i, (row rs i).length ≤ 1000) (hn : rs.length ≤ 400) (hm : m ≤ 12) : m_best_behind [pgD lines b t rs l m] = some (.own (tkD (tabF t rs l m))) := by
  have m1 := pg_meth (lines := lines) (b := b) (t := t) (rs := rs) (l := l) (m := m) (x := "places") (by decide +kernel)
  have hp := places_ok (lines := lines) (b := b) (t := t) (l := l) hn hm
  obtain ⟨env', h, ps, T, y2, y3, y4, y5, y6, y7, y8, he, h1, h2, h3, h4, h5, h6⟩ := forS_nx (b := nmB 2) (f := l_best_behind_2)
    (fun ds env => ∃ (ps : List Pl) (T : List (Pl × Ent)) (y2 y3 y4 y5 y6 y7 y8 : Option Sl), env = [some (.dat (pgD lines b t rs l m)), some (.own (tkD T)), y2, y3, y4, y5, y6, y7, y8] ∧ ds = ps.map plD ∧ ps.foldl (stepT t rs l m) T = tabF t rs l m ∧
      T.length + ps.length ≤ 100000 ∧ ps.Nodup ∧ (∀ p ∈ ps, ∀ x ∈ T, x.1 ≠ p) ∧ ∀ p ∈ ps, p.1 ≤ rs.length)
    (by
      rintro d ds env ⟨ps, T, y2, y3, y4, y5, y6, y7, y8, rfl, h1, h2, h3, h4, h5, h6⟩
      cases ps with
      | nil => cases h1
      | cons p ps =>
        rw [List.map_cons] at h1
        injection h1 with h7 h8
        subst h7
        rw [List.length_cons] at h3
        obtain ⟨z3, z4, z5, z6, z7, z8, k⟩ := bb_2 (lines := lines) (b := b) (l := l) (m := m) ht ho hlen (h6 p (List.mem_cons_self ..)) (T := T) (by omega) (h5 p (List.mem_cons_self ..)) (x3 := y3) (x4 := y4) (x5 := y5) (x6 := y6) (x7 := y7) (x8 := y8)
        refine ⟨_, _, rfl, k, ps, stepT t rs l m T p, _, z3, z4, z5, z6, z7, z8, rfl, h8, h2, ?_, (List.nodup_cons.mp h4).2, ?_, fun q hq => h6 q (List.mem_cons_of_mem _ hq)⟩
        · have := stepT_len (t := t) (rs := rs) (l := l) (m := m) (T := T) (p := p)
          omega
        · intro q hq x hx
          rcases stepT_keys hx with hx | hx
          · exact h5 q (List.mem_cons_of_mem _ hq) x hx
          · rw [hx]
            intro e
            subst e
            exact (List.nodup_cons.mp h4).1 hq)
    ((plsF rs.length m).reverse.map plD) [some (.dat (pgD lines b t rs l m)), some (.own (tkD [])), none, none, none, none, none, none, none]
    ⟨(plsF rs.length m).reverse, [], none, none, none, none, none, none, none, rfl, rfl, rfl, by
      rw [List.length_reverse, plsF_len]
      have := Nat.mul_le_mul (show rs.length + 1 ≤ 401 by omega) (show m + 1 ≤ 13 by omega)
      show 0 + _ ≤ _
      omega, List.pairwise_reverse.mpr (plsF_nodup.imp fun h => h.symm), (fun _ _ _ hx => absurd hx List.not_mem_nil), fun p hp => (plsF_mem.mp (List.mem_reverse.mp hp)).1⟩
  have e : ps = [] := by
    cases ps with
    | nil => rfl
    | cons _ _ => cases h1
  subst e
  rw [List.foldl_nil] at h2
  subst h2
  rw [List.map_reverse] at h
  subst he
  have hn : (OC.dct [] [] : OC) = tkD [] := rfl
  simp [-s_fldD, -s_methD, m_best_behind, b_best_behind, m1, hp, hn, h]
end
end K77

set_option Elab.async false
set_option linter.all false
set_option maxRecDepth 100000
set_option maxHeartbeats 1000000
namespace K77
open PySem PySem.Spec PyProof.Rows L2 Z PySem.W
abbrev Tk := Int ⊕ List Nat
abbrev lx : List Tk → List Tk → Bool := PyProof.Rows.lexLt itemOrd
theorem lx_same (x : Tk) (r t : List Tk) : lx (x :: r) (x :: t) = lx r t := lex_self (O := itemOrd) x r t
theorem lx_int (i j : Int) (r t : List Tk) : lx (.inl i :: r) (.inl j :: t) = if i = j then lx r t else decide (i < j) := by
  by_cases c : i = j
  · subst c
    rw [if_pos rfl, lx_same]
  · rw [if_neg c]
    exact lex_diff (O := itemOrd) (fun z => c (Sum.inl.inj z))
abbrev Pgs := List (List Nat)
abbrev W := Int × Int × Int × Pgs
def pgP (p : List Nat) : PyData := .tuple (p.map fun (i : Nat) => .int (i : Int))
def wP (w : W) : List PyData := [.int w.1, .int w.2.1, .int w.2.2.1, .tuple (w.2.2.2.map pgP)]
def tPs (p : Pgs) : List Tk := keyToksAll (p.map pgP)
def ltP (p q : Pgs) : Bool := lx (tPs p ++ [.inl 0]) (tPs q ++ [.inl 0])
def ltW (a b : W) : Bool := lx (keyToksAll (wP a)) (keyToksAll (wP b))
def rkW (w : W) : Rk := (w.1, w.2.1, w.2.2.1)
theorem toks_w (w : W) : keyToksAll (wP w) = .inl 1 :: .inl w.1 :: .inl 1 :: .inl w.2.1 :: .inl 1 :: .inl w.2.2.1 :: .inl 1 :: (tPs w.2.2.2 ++ [.inl 0]) := by
  unfold wP
  simp only [keyToksAll, keyToks, List.cons_append, List.nil_append]
  rfl
theorem ltW_eq (a b : W) : ltW a b = if rkW a = rkW b then ltP a.2.2.2 b.2.2.2 else lex3 (rkW a) (rkW b) := by
  unfold ltW ltP lex3 rkW
  rw [toks_w, toks_w]
  rw [lx_same, lx_int, lx_same, lx_int, lx_same, lx_int, lx_same]
  simp only [HT.lexLt, Prod.mk.injEq]
  by_cases c1 : a.1 = b.1
  · by_cases c2 : a.2.1 = b.2.1
    · by_cases c3 : a.2.2.1 = b.2.2.1
      · simp [c1, c2, c3]
      · simp [c1, c2, c3]
    · simp [c1, c2]
  · simp [c1]
theorem ltW_irrefl (a : W) : ltW a a = false := lex_irrefl (O := itemOrd) _
theorem ltW_trans {a b c : W} (h1 : ltW a b = true) (h2 : ltW b c = true) : ltW a c = true := lex_trans (O := itemOrd) _ _ _ h1 h2
/-- not b < a, not c < b: not c < a -/
theorem ltW_neg {a b c : W} (h1 : ltW b a = false) (h2 : ltW c b = false) : ltW c a = false := by
  cases h : ltW c a with
  | false => rfl
  | true =>
    rcases lex_negTrans (O := itemOrd) _ (keyToksAll (wP b)) _ h with h | h
    · exact absurd h (by rw [show PyProof.Rows.lexLt itemOrd (keyToksAll (wP c)) (keyToksAll (wP b)) = false from h2]; simp)
    · exact absurd h (by rw [show PyProof.Rows.lexLt itemOrd (keyToksAll (wP b)) (keyToksAll (wP a)) = false from h1]; simp)
def bet (a b : Option W) : Option W := match a, b with
  | none, b => b
  | a, none => a
  | some a, some b => if ltW b a = true then some b else some a
theorem bet_none (a : Option W) : bet a none = a := by cases a <;> rfl
theorem none_bet (a : Option W) : bet none a = a := by cases a <;> rfl
theorem bet_assoc (a b c : Option W) : bet (bet a b) c = bet a (bet b c) := by
  cases a with
  | none => rw [none_bet, none_bet]
  | some a =>
    cases b with
    | none => rw [bet_none, none_bet]
    | some b =>
      cases c with
      | none => rw [bet_none, bet_none]
      | some c =>
        simp only [bet]
        cases h1 : ltW b a with
        | true =>
          cases h2 : ltW c b with
          | true =>
            have h3 := ltW_trans h2 h1
            simp [h1, h2, h3]
          | false => simp [h1, h2]
        | false =>
          cases h2 : ltW c b with
          | true =>
            simp [h1, h2]
          | false =>
            have h3 := ltW_neg h1 h2
            simp [h1, h2, h3]
def minW (ws : List W) : Option W := ws.foldl (fun a x => bet a (some x)) none
theorem fold_bet (ws : List W) : ∀ a : Option W, ws.foldl (fun a x => bet a (some x)) a = bet a (minW ws) := by
  unfold minW
  induction ws with
  | nil => intro a; exact (bet_none a).symm
  | cons w ws ih =>
    intro a
    rw [List.foldl_cons, List.foldl_cons, ih, ih (bet none (some w)), ← bet_assoc, none_bet]
theorem minW_app (a b : List W) : minW (a ++ b) = bet (minW a) (minW b) := by
  show List.foldl _ none (a ++ b) = _
  rw [List.foldl_append, fold_bet b]
  rfl
theorem minW_flat {α : Type} (f : α → List W) (xs : List α) : ∀ b : Option W, bet b (minW (xs.flatMap f)) = xs.foldl (fun a x => bet a (minW (f x))) b := by
  induction xs with
  | nil => intro b; exact bet_none b
  | cons x xs ih =>
    intro b
    rw [List.flatMap_cons, minW_app, ← bet_assoc, ih, List.foldl_cons]
theorem minW_map {f : W → W} {P : W → Prop} (hf : ∀ a b, P a → P b → ltW (f a) (f b) = ltW a b) (ws : List W) (hP : ∀ w ∈ ws, P w) : minW (ws.map f) = (minW ws).map f ∧ ∀ w, minW ws = some w → P w := by
  have key : ∀ (ws : List W) (a : Option W), (∀ w ∈ ws, P w) → (∀ w, a = some w → P w) → (ws.map f).foldl (fun a x => bet a (some x)) (a.map f) = (ws.foldl (fun a x => bet a (some x)) a).map f ∧ ∀ w, ws.foldl (fun a x => bet a (some x)) a = some w → P w := by
    intro ws
    induction ws with
    | nil => intro a _ h; exact ⟨rfl, h⟩
    | cons w ws ih =>
      intro a h1 h2
      have hw := h1 w (List.mem_cons_self ..)
      rw [List.map_cons, List.foldl_cons, List.foldl_cons]
      have e : bet (a.map f) (some (f w)) = (bet a (some w)).map f ∧ ∀ v, bet a (some w) = some v → P v := by
        cases a with
        | none => exact ⟨rfl, fun v hv => by cases hv; exact hw⟩
        | some a =>
          have ha := h2 a rfl
          simp only [bet, Option.map_some]
          rw [hf w a hw ha]
          cases ltW w a with
          | true => exact ⟨rfl, fun v hv => by cases hv; exact hw⟩
          | false => exact ⟨rfl, fun v hv => by cases hv; exact ha⟩
      rw [e.1]
      exact ih _ (fun v hv => h1 v (List.mem_cons_of_mem _ hv)) e.2
  exact key ws none hP nofun
/-! going on from a place -/
def lineP (s : Nat) : Pgs → Pgs
  | [] => []
  | p :: r => (s :: p) :: r
theorem tPs_nil (p : Pgs) : tPs ([] :: p) = .inl 1 :: .inl 0 :: tPs p := by
  unfold tPs pgP
  simp only [List.map_cons, List.map_nil, keyToksAll, keyToks, List.cons_append, List.nil_append]
theorem tPs_cons (p : List Nat) (r : Pgs) : ∃ x, tPs (p :: r) = .inl 1 :: x ∧ ∀ s, tPs ((s :: p) :: r) = .inl 1 :: .inl 1 :: .inl (s : Int) :: x := by
  unfold tPs
  refine ⟨_, by rw [List.map_cons, keyToksAll], fun s => ?_⟩
  unfold pgP
  simp only [List.map_cons, keyToksAll, keyToks, List.cons_append, List.nil_append]
theorem ltP_turn (p q : Pgs) : ltP ([] :: p) ([] :: q) = ltP p q := by
  unfold ltP
  rw [tPs_nil, tPs_nil, List.cons_append, List.cons_append, List.cons_append, List.cons_append, lx_same, lx_same]
theorem ltP_line (s : Nat) {p q : Pgs} (hp : p ≠ []) (hq : q ≠ []) : ltP (lineP s p) (lineP s q) = ltP p q := by
  cases p with
  | nil => exact absurd rfl hp
  | cons p r =>
    cases q with
    | nil => exact absurd rfl hq
    | cons q u =>
      obtain ⟨x, h1, h2⟩ := tPs_cons p r
      obtain ⟨y, h3, h4⟩ := tPs_cons q u
      unfold ltP lineP
      rw [h1, h2, h3, h4]
      simp only [List.cons_append]
      rw [lx_same, lx_same, lx_same, lx_same]
theorem ltP_tl {s : Nat} {p q : Pgs} (hq : q ≠ []) : ltP (lineP s q) ([] :: p) = false := by
  cases q with
  | nil => exact absurd rfl hq
  | cons q u =>
    obtain ⟨y, h3, h4⟩ := tPs_cons q u
    unfold ltP lineP
    rw [h4, tPs_nil]
    simp only [List.cons_append]
    rw [lx_same, lx_int, if_neg (by decide)]
    rfl
theorem ltP_ll {s s' : Nat} (h : s < s') {p q : Pgs} (hp : p ≠ []) (hq : q ≠ []) : ltP (lineP s' q) (lineP s p) = false := by
  cases p with
  | nil => exact absurd rfl hp
  | cons p r =>
    cases q with
    | nil => exact absurd rfl hq
    | cons q u =>
      obtain ⟨x, h1, h2⟩ := tPs_cons p r
      obtain ⟨y, h3, h4⟩ := tPs_cons q u
      unfold ltP lineP
      rw [h2, h4]
      simp only [List.cons_append]
      rw [lx_same, lx_same, lx_int, if_neg (by omega)]
      exact decide_eq_false (by omega)
end K77

set_option Elab.async false
set_option linter.all false
set_option maxRecDepth 100000
set_option maxHeartbeats 1000000
namespace K77
open PySem PySem.Spec PyProof.Rows L2 Z PySem.W
theorem fold_congr {α β : Type} {f g : β → α → β} : ∀ (os : List α) (b : β), (∀ b, ∀ o ∈ os, f b o = g b o) → os.foldl f b = os.foldl g b
  | [], _, _ => rfl
  | o :: os, b, h => by
    rw [List.foldl_cons, List.foldl_cons, h b o (List.mem_cons_self ..)]
    exact fold_congr os _ fun b o ho => h b o (List.mem_cons_of_mem _ ho)
def ext (o : Op) (w : W) : W := if o.1.2 = 0 then (w.1 + o.2, w.2.1 + 1, w.2.2.1, [] :: w.2.2.2) else (w.1 + o.2, w.2.1, w.2.2.1 + 1, lineP o.1.1 w.2.2.2)
def startW (n : Nat) (p : Pl) : Option W := if p.1 = n ∧ 0 < p.2 then some (0, 0, 0, [[]]) else none
def stepW (V : Pl → Option W) (best : Option W) (o : Op) : Option W := bet best ((V o.1).map (ext o))
def mu (n : Nat) (p : Pl) : Nat := 2 * (n - p.1) + (if p.2 = 0 then 0 else 1)
section
variable (t : List (Option Int)) (rs : List (List Ed)) (l m : Nat)
def bst : Nat → Pl → Option W
  | 0, _ => none
  | k + 1, p => (folF t rs l m p).foldl (stepW (bst k)) (startW rs.length p)
def val (p : Pl) : Option W := bst t rs l m (mu rs.length p + 1) p
end
section
variable {t : List (Option Int)} {rs : List (List Ed)} {l m : Nat}
theorem fol_mem (ho : EdOk rs) {p : Pl} {o : Op} (h : o ∈ folF t rs l m p) :
    (o.1.1 = p.1 ∧ o.1.2 = 0 ∧ p.1 < rs.length ∧ l ≤ p.2) ∨ (p.1 < o.1.1 ∧ o.1.1 ≤ rs.length ∧ o.1.2 = p.2 + 1 ∧ p.2 ≠ m ∧ p.1 ≠ rs.length ∧ ∃ e ∈ row rs p.1, o = ((e.1.toNat, p.2 + 1), e.2)) := by
  unfold folF at h
  rcases List.mem_append.mp h with h | h
  · left
    unfold turnF at h
    by_cases c : l ≤ p.2 ∧ p.1 < rs.length
    · rw [if_pos c] at h
      split at h
      · cases h
      · rw [List.mem_singleton.mp h]
        exact ⟨rfl, rfl, c.2, c.1⟩
    · rw [if_neg c] at h
      cases h
  · right
    unfold lnsF at h
    split at h
    · cases h
    · rename_i c
      obtain ⟨e, he, rfl⟩ := List.mem_map.mp h
      obtain ⟨j, h1, h2, h3⟩ := ho p.1 e he
      refine ⟨?_, ?_, rfl, fun z => c (.inr z), fun z => c (.inl z), e, he, rfl⟩
      · show p.1 < e.1.toNat; omega
      · show e.1.toNat ≤ rs.length; omega
theorem fol_mu (ho : EdOk rs) (hl : 1 ≤ l) {p : Pl} {o : Op} (h : o ∈ folF t rs l m p) : mu rs.length o.1 < mu rs.length p := by
  unfold mu
  rcases fol_mem ho h with ⟨h1, h2, h3, h4⟩ | ⟨h1, h2, h3, h4, _⟩
  · rw [h1, h2, if_pos rfl, if_neg (by omega)]; omega
  · rw [h3, if_neg (by omega)]; omega
theorem bst_stable (ho : EdOk rs) (hl : 1 ≤ l) : ∀ (k k' : Nat) (p : Pl), mu rs.length p < k → mu rs.length p < k' → bst t rs l m k p = bst t rs l m k' p
  | 0, _, _, h, _ => absurd h (Nat.not_lt_zero _)
  | _, 0, _, _, h => absurd h (Nat.not_lt_zero _)
  | k + 1, k' + 1, p, h, h' => by
    unfold bst
    refine fold_congr _ _ fun b o hmem => ?_
    have := fol_mu ho hl hmem
    unfold stepW
    rw [bst_stable ho hl k k' o.1 (by omega) (by omega)]
theorem bst_val (ho : EdOk rs) (hl : 1 ≤ l) {k : Nat} {p : Pl} (h : mu rs.length p < k) : bst t rs l m k p = val t rs l m p := bst_stable ho hl _ _ _ h (Nat.lt_succ_self _)
theorem val_eq (ho : EdOk rs) (hl : 1 ≤ l) (p : Pl) : val t rs l m p = (folF t rs l m p).foldl (stepW (val t rs l m)) (startW rs.length p) := by
  show bst t rs l m (mu rs.length p + 1) p = _
  unfold bst
  refine fold_congr _ _ fun b o hmem => ?_
  unfold stepW
  rw [bst_val ho hl (fol_mu ho hl hmem)]
theorem bet_src {a b : Option W} {w : W} (h : bet a b = some w) : a = some w ∨ b = some w := by
  cases a with
  | none => exact .inr ((none_bet b).symm.trans h)
  | some a =>
    cases b with
    | none => exact .inl h
    | some b =>
      simp only [bet] at h
      split at h
      · exact .inr h
      · exact .inl h
theorem fold_src {V : Pl → Option W} {w : W} : ∀ (os : List Op) (b : Option W), os.foldl (stepW V) b = some w → b = some w ∨ ∃ o ∈ os, ∃ w', V o.1 = some w' ∧ w = ext o w'
  | [], _, h => .inl h
  | o :: os, b, h => by
    rcases fold_src os _ h with h | ⟨o', h1, h2⟩
    · rcases bet_src h with h | h
      · exact .inl h
      · obtain ⟨w', h3, h4⟩ := Option.map_eq_some_iff.mp h
        exact .inr ⟨o, List.mem_cons_self .., w', h3, h4.symm⟩
    · exact .inr ⟨o', List.mem_cons_of_mem _ h1, h2⟩
/-- what a breaking from a place looks like -/
def Sz (k : Nat) (w : W) : Prop := ∃ q r, w.2.2.2 = q :: r ∧ q.length ≤ k ∧ r.length ≤ k
theorem Sz.ne {k : Nat} {w : W} (h : Sz k w) : w.2.2.2 ≠ [] := by
  obtain ⟨q, r, h, _⟩ := h
  rw [h]; exact List.cons_ne_nil _ _
theorem Sz.ext {k k' : Nat} {w : W} {o : Op} (h : Sz k w) (hk : k < k') : Sz k' (ext o w) := by
  obtain ⟨q, r, h1, h2, h3⟩ := h
  unfold K77.ext
  split
  · exact ⟨[], q :: r, by rw [h1], Nat.zero_le _, by rw [List.length_cons]; omega⟩
  · exact ⟨o.1.1 :: q, r, by show lineP _ _ = _; rw [h1]; rfl, by rw [List.length_cons]; omega, by omega⟩
theorem start_src {n : Nat} {p : Pl} {w : W} (h : startW n p = some w) : p.1 = n ∧ 0 < p.2 ∧ w = (0, 0, 0, [[]]) := by
  unfold startW at h
  split at h
  · rename_i c
    cases h
    exact ⟨c.1, c.2, rfl⟩
  · cases h
theorem bst_sz (ho : EdOk rs) (hl : 1 ≤ l) : ∀ (k : Nat) (p : Pl) (w : W), bst t rs l m k p = some w → Sz (mu rs.length p) w
  | 0, _, _, h => nomatch h
  | k + 1, p, w, h => by
    unfold bst at h
    rcases fold_src _ _ h with h | ⟨o, h1, w', h2, h3⟩
    · obtain ⟨_, _, rfl⟩ := start_src h
      exact ⟨[], [], rfl, Nat.zero_le _, Nat.zero_le _⟩
    · subst h3
      exact (bst_sz ho hl k o.1 w' h2).ext (fol_mu ho hl h1)
theorem val_sz (ho : EdOk rs) (hl : 1 ≤ l) {p : Pl} {w : W} (h : val t rs l m p = some w) : Sz (mu rs.length p) w := bst_sz ho hl _ p w h
theorem lex3_irrefl (a : Rk) : lex3 a a = false := by
  unfold lex3
  simp [HT.lexLt]
theorem ltW_ext {o : Op} {a b : W} (ha : a.2.2.2 ≠ []) (hb : b.2.2.2 ≠ []) : ltW (ext o a) (ext o b) = ltW a b := by
  rw [ltW_eq, ltW_eq]
  have c1 : (rkW (ext o a) = rkW (ext o b)) = (rkW a = rkW b) := by
    unfold rkW ext
    split <;> simp
  have c2 : lex3 (rkW (ext o a)) (rkW (ext o b)) = lex3 (rkW a) (rkW b) := by
    unfold rkW ext lex3
    split <;> simp [HT.lexLt]
  have c3 : ltP (ext o a).2.2.2 (ext o b).2.2.2 = ltP a.2.2.2 b.2.2.2 := by
    unfold ext
    split
    · exact ltP_turn _ _
    · exact ltP_line _ ha hb
  rw [c2, c3]
  simp only [c1]
/-! all breakings -/
end
section
variable (t : List (Option Int)) (rs : List (List Ed)) (l m : Nat)
def allF : Nat → Pl → List W
  | 0, _ => []
  | k + 1, p => if p.1 = rs.length then [(0, 0, 0, [[]])] else (folF t rs l m p).flatMap fun o => (allF k o.1).map (ext o)
end
section
variable {t : List (Option Int)} {rs : List (List Ed)} {l m : Nat}
theorem fol_end {p : Pl} (h : p.1 = rs.length) : folF t rs l m p = [] := by
  unfold folF turnF lnsF
  rw [if_neg (by omega), if_pos (.inl h)]
  rfl
theorem all_sz (ho : EdOk rs) (hl : 1 ≤ l) : ∀ (k : Nat) (p : Pl) (w : W), w ∈ allF t rs l m k p → Sz (mu rs.length p) w
  | 0, _, _, h => nomatch h
  | k + 1, p, w, h => by
    unfold allF at h
    split at h
    · rw [List.mem_singleton.mp h]
      exact ⟨[], [], rfl, Nat.zero_le _, Nat.zero_le _⟩
    · obtain ⟨o, h1, h⟩ := List.mem_flatMap.mp h
      obtain ⟨w', h2, rfl⟩ := List.mem_map.mp h
      exact (all_sz ho hl k o.1 w' h2).ext (fol_mu ho hl h1)
theorem min_all (ho : EdOk rs) (hl : 1 ≤ l) : ∀ (k : Nat) (p : Pl), (p.1 < rs.length ∨ 0 < p.2) → minW (allF t rs l m k p) = bst t rs l m k p
  | 0, _, _ => rfl
  | k + 1, p, hp => by
    unfold allF bst startW
    by_cases c : p.1 = rs.length
    · rw [if_pos c, fol_end c, if_pos ⟨c, by omega⟩]
      rfl
    · rw [if_neg c, if_neg (fun z => c z.1)]
      have e := minW_flat (fun o => (allF t rs l m k o.1).map (ext o)) (folF t rs l m p) none
      rw [none_bet] at e
      rw [e]
      refine fold_congr _ _ fun b o hmem => ?_
      have hq : o.1.1 < rs.length ∨ 0 < o.1.2 := by
        rcases fol_mem ho hmem with ⟨h1, h2, h3, h4⟩ | ⟨h1, h2, h3, h4, _⟩
        · left; omega
        · right; omega
      unfold stepW
      rw [← min_all ho hl k o.1 hq, (minW_map (f := ext o) (P := fun w => w.2.2.2 ≠ []) (fun a b ha hb => ltW_ext ha hb) _ (fun w hw => (all_sz ho hl k o.1 w hw).ne)).1]
end
end K77

set_option Elab.async false
set_option linter.all false
set_option maxRecDepth 100000
set_option maxHeartbeats 1000000
namespace K77
open PySem PySem.Spec PyProof.Rows L2 Z PySem.W
/-- of two ways to go on the second one is a line, behind the first -/
def After (o' o : Op) : Prop := o.1.2 ≠ 0 ∧ (o'.1.2 = 0 ∨ (o'.1.2 ≠ 0 ∧ o'.1.1 < o.1.1))
theorem ltP_after {o' o : Op} (h : After o' o) {a b : W} (ha : a.2.2.2 ≠ []) (hb : b.2.2.2 ≠ []) : ltP (ext o b).2.2.2 (ext o' a).2.2.2 = false := by
  unfold ext
  rw [if_neg h.1]
  rcases h.2 with h2 | ⟨h2, h3⟩
  · rw [if_pos h2]
    exact ltP_tl hb
  · rw [if_neg h2]
    exact ltP_ll h3 ha hb
def EdAsc (rs : List (List Ed)) : Prop := ∀ i, (row rs i).Pairwise fun a b => a.1 < b.1
section
variable {t : List (Option Int)} {rs : List (List Ed)} {l m : Nat}
theorem fol_after (ho : EdOk rs) (ha : EdAsc rs) {p : Pl} : (folF t rs l m p).Pairwise After := by
  unfold folF
  have h1 : (lnsF rs m p).Pairwise After := by
    unfold lnsF
    split
    · exact List.Pairwise.nil
    · refine List.pairwise_map.mpr ?_
      refine List.Pairwise.imp_of_mem ?_ (ha p.1)
      intro a b hm1 hm2 h
      obtain ⟨i, e1, _⟩ := ho p.1 a hm1
      obtain ⟨j, e2, _⟩ := ho p.1 b hm2
      refine ⟨Nat.succ_ne_zero _, .inr ⟨Nat.succ_ne_zero _, ?_⟩⟩
      show a.1.toNat < b.1.toNat
      omega
  have h2 : ∀ o ∈ lnsF rs m p, o.1.2 ≠ 0 := by
    intro o h
    unfold lnsF at h
    split at h
    · cases h
    · obtain ⟨e, _, rfl⟩ := List.mem_map.mp h
      exact Nat.succ_ne_zero _
  split
  · exact h1
  · exact List.pairwise_cons.mpr ⟨fun o h => ⟨h2 o h, .inl rfl⟩, h1⟩
theorem mine_eq {p : Pl} {o : Op} {w : W} (h : o.1.1 = p.1 ↔ o.1.2 = 0) : mineF p o (rkW w) = rkW (ext o w) := by
  unfold mineF rkW ext
  by_cases c : o.1.2 = 0
  · rw [if_pos c, if_pos (h.mpr c), if_pos (h.mpr c)]
    simp
  · rw [if_neg c, if_neg (fun z => c (h.mp z)), if_neg (fun z => c (h.mp z))]
    simp
def Cor (V : Pl → Option W) (fo : List Op) (w : W) : Option Pl → Prop
  | none => w.2.2.2 = [[]]
  | some q => ∃ c w', V q = some w' ∧ w = ext (q, c) w' ∧ (q, c) ∈ fo
def Rel (V : Pl → Option W) (fo : List Op) (e : Option Ent) (v : Option W) : Prop := (e = none ∧ v = none) ∨ ∃ r b w, e = some (r, b) ∧ v = some w ∧ r = rkW w ∧ Cor V fo w b
theorem fold_rel {V : Pl → Option W} {fo : Pl → List Op} {T : List (Pl × Ent)} {p : Pl} : ∀ (os : List Op) (be : Option Ent) (bw : Option W), (∀ o ∈ os, o ∈ fo p) →
    (∀ o ∈ os, (o.1.1 = p.1 ↔ o.1.2 = 0)) → (∀ o ∈ os, Rel V (fo o.1) (look T o.1) (V o.1)) → (∀ o ∈ os, ∀ w, V o.1 = some w → w.2.2.2 ≠ []) → os.Pairwise After →
    ((be = none ∧ bw = none) ∨ ∃ o' w', V o'.1 = some w' ∧ w'.2.2.2 ≠ [] ∧ be = some (rkW (ext o' w'), some o'.1) ∧ bw = some (ext o' w') ∧ o' ∈ fo p ∧ ∀ o ∈ os, After o' o) →
    Rel V (fo p) (os.foldl (stepB T p) be) (os.foldl (stepW V) bw)
  | [], be, bw, _, _, _, _, _, h => by
    rcases h with ⟨rfl, rfl⟩ | ⟨o', w', h1, _, rfl, rfl, h2, _⟩
    · exact .inl ⟨rfl, rfl⟩
    · exact .inr ⟨_, _, _, rfl, rfl, rfl, o'.2, w', h1, rfl, h2⟩
  | o :: os, be, bw, hf, hm, hT, hne, hP, h => by
    rw [List.foldl_cons, List.foldl_cons]
    have hf' : ∀ o ∈ os, o ∈ fo p := fun x hx => hf x (List.mem_cons_of_mem _ hx)
    have hm' : ∀ o ∈ os, (o.1.1 = p.1 ↔ o.1.2 = 0) := fun x hx => hm x (List.mem_cons_of_mem _ hx)
    have hT' : ∀ o ∈ os, Rel V (fo o.1) (look T o.1) (V o.1) := fun x hx => hT x (List.mem_cons_of_mem _ hx)
    have hne' : ∀ o ∈ os, ∀ w, V o.1 = some w → w.2.2.2 ≠ [] := fun x hx => hne x (List.mem_cons_of_mem _ hx)
    obtain ⟨hP1, hP2⟩ := List.pairwise_cons.mp hP
    rcases hT o (List.mem_cons_self ..) with ⟨e1, e2⟩ | ⟨r, b, w, e1, e2, e3, _⟩
    · have s1 : stepB T p be o = be := by unfold stepB; rw [e1]
      have s2 : stepW V bw o = bw := by unfold stepW; rw [e2]; exact bet_none bw
      rw [s1, s2]
      refine fold_rel os be bw hf' hm' hT' hne' hP2 ?_
      rcases h with h | ⟨o', w', h1, h2, h3, h4, h5, h6⟩
      · exact .inl h
      · exact .inr ⟨o', w', h1, h2, h3, h4, h5, fun x hx => h6 x (List.mem_cons_of_mem _ hx)⟩
    · have hmine : mineF p o r = rkW (ext o w) := by rw [e3]; exact mine_eq (hm o (List.mem_cons_self ..))
      have hw := hne o (List.mem_cons_self ..) w e2
      have new : Rel V (fo p) (os.foldl (stepB T p) (some (rkW (ext o w), some o.1))) (os.foldl (stepW V) (some (ext o w))) :=
        fold_rel os _ _ hf' hm' hT' hne' hP2 (.inr ⟨o, w, e2, hw, rfl, rfl, hf o (List.mem_cons_self ..), hP1⟩)
      rcases h with ⟨rfl, rfl⟩ | ⟨o', w', h1, h2, rfl, rfl, h5, h6⟩
      · have s1 : stepB T p none o = some (rkW (ext o w), some o.1) := by
          unfold stepB
          rw [e1]
          show some (mineF p o r, some o.1) = _
          rw [hmine]
        have s2 : stepW V none o = some (ext o w) := by unfold stepW; rw [e2]; rfl
        rw [s1, s2]
        exact new
      · have s1 : stepB T p (some (rkW (ext o' w'), some o'.1)) o = if lex3 (rkW (ext o w)) (rkW (ext o' w')) = true then some (rkW (ext o w), some o.1) else some (rkW (ext o' w'), some o'.1) := by
          unfold stepB
          rw [e1]
          show (if lex3 (mineF p o r) (rkW (ext o' w')) = true then some (mineF p o r, some o.1) else _) = _
          rw [hmine]
        have s2 : stepW V (some (ext o' w')) o = if ltW (ext o w) (ext o' w') = true then some (ext o w) else some (ext o' w') := by
          unfold stepW; rw [e2]; rfl
        have old : Rel V (fo p) (os.foldl (stepB T p) (some (rkW (ext o' w'), some o'.1))) (os.foldl (stepW V) (some (ext o' w'))) :=
          fold_rel os _ _ hf' hm' hT' hne' hP2 (.inr ⟨o', w', h1, h2, rfl, rfl, h5, fun x hx => h6 x (List.mem_cons_of_mem _ hx)⟩)
        have hlt : ltW (ext o w) (ext o' w') = lex3 (rkW (ext o w)) (rkW (ext o' w')) := by
          rw [ltW_eq]
          by_cases c : rkW (ext o w) = rkW (ext o' w')
          · rw [if_pos c, c, lex3_irrefl]
            exact ltP_after (h6 o (List.mem_cons_self ..)) h2 hw
          · rw [if_neg c]
        rw [s1, s2, hlt]
        split
        · exact new
        · exact old
theorem best_rel (ho : EdOk rs) (ha : EdAsc rs) (hl : 1 ≤ l) {p : Pl} {T : List (Pl × Ent)} (hT : ∀ o ∈ folF t rs l m p, Rel (val t rs l m) (folF t rs l m o.1) (look T o.1) (val t rs l m o.1)) :
    Rel (val t rs l m) (folF t rs l m p) (bestB t rs l m T p) (val t rs l m p) := by
  rw [val_eq ho hl]
  unfold bestB
  by_cases c : p.1 = rs.length
  · rw [fol_end c, List.foldl_nil, List.foldl_nil]
    unfold startB startW
    by_cases c2 : 0 < p.2
    · rw [if_pos ⟨c, c2⟩, if_pos ⟨c, c2⟩]
      exact .inr ⟨_, _, _, rfl, rfl, rfl, rfl⟩
    · rw [if_neg (fun z => c2 z.2), if_neg (fun z => c2 z.2)]
      exact .inl ⟨rfl, rfl⟩
  · have h1 : startB rs p = none := by unfold startB; rw [if_neg (fun z => c z.1)]
    have h2 : startW rs.length p = none := by unfold startW; rw [if_neg (fun z => c z.1)]
    rw [h1, h2]
    refine fold_rel (fo := folF t rs l m) _ _ _ (fun o h => h) (fun o h => ?_) hT (fun o h w hw => (val_sz ho hl hw).ne) (fol_after ho ha) (.inl ⟨rfl, rfl⟩)
    rcases fol_mem ho h with ⟨h1, h2, _⟩ | ⟨h1, h2, h3, _⟩
    · exact ⟨fun _ => h2, fun _ => h1⟩
    · exact ⟨fun z => by omega, fun z => by omega⟩
theorem look_snoc {α : Type} {T : List (Pl × α)} {p q : Pl} {e : α} : look (T ++ [(p, e)]) q = (look T q).or (if p = q then some e else none) := by
  unfold look
  rw [List.find?_append]
  cases h : T.find? (fun x => decide (x.1 = q)) with
  | some x => simp
  | none =>
    by_cases c : p = q
    · simp [c]
    · simp [c]
def putO {α : Type} (T : List (Pl × α)) (p : Pl) : Option α → List (Pl × α)
  | none => T
  | some x => T ++ [(p, x)]
@[simp] theorem putO_n {α : Type} {T : List (Pl × α)} {p : Pl} : putO T p none = T := rfl
@[simp] theorem putO_s {α : Type} {T : List (Pl × α)} {p : Pl} {x : α} : putO T p (some x) = T ++ [(p, x)] := rfl
def TIn {α : Type} (R : Pl → Option α → Prop) (T : List (Pl × α)) (D : Pl → Prop) : Prop := ∀ q, (D q → R q (look T q)) ∧ (¬ D q → look T q = none)
theorem TIn.step {α : Type} {R : Pl → Option α → Prop} {T T' : List (Pl × α)} {D D' : Pl → Prop} {p : Pl} {e : Option α} (h : TIn R T D) (hp : ¬ D p) (hR : R p e) (hT : T' = putO T p e) (hD : ∀ q, D' q ↔ D q ∨ q = p) : TIn R T' D' := by
  intro q
  have e1 : look T' q = if p = q then e else look T q := by
    subst hT
    by_cases c : p = q
    · subst c
      rw [if_pos rfl]
      cases e with
      | none => exact (h p).2 hp
      | some x =>
        show look (T ++ [(p, x)]) p = some x
        rw [look_snoc, (h p).2 hp, if_pos rfl]
        rfl
    · rw [if_neg c]
      cases e with
      | none => rfl
      | some x =>
        show look (T ++ [(p, x)]) q = _
        rw [look_snoc, if_neg c]
        cases look T q <;> rfl
  rw [e1]
  by_cases c : p = q
  · subst c
    rw [if_pos rfl]
    exact ⟨fun _ => hR, fun z => absurd ((hD p).mpr (.inr rfl)) z⟩
  · rw [if_neg c]
    refine ⟨fun z => (h q).1 ?_, fun z => (h q).2 fun y => z ((hD q).mpr (.inl y))⟩
    rcases (hD q).mp z with z | z
    · exact z
    · exact absurd z.symm c
theorem TIn.congr {α : Type} {R : Pl → Option α → Prop} {T : List (Pl × α)} {D D' : Pl → Prop} (h : TIn R T D) (hD : ∀ q, D' q ↔ D q) : TIn R T D' := fun q => ⟨fun z => (h q).1 ((hD q).mp z), fun z => (h q).2 fun y => z ((hD q).mpr y)⟩
/-- the order in which places are gone through -/
def Bef (x y : Pl) : Prop := y.1 < x.1 ∨ (y.1 = x.1 ∧ x.2 < y.2)
theorem fol_bef (ho : EdOk rs) (hl : 1 ≤ l) {p : Pl} {o : Op} (h : o ∈ folF t rs l m p) : Bef o.1 p := by
  rcases fol_mem ho h with ⟨h1, h2, h3, h4⟩ | ⟨h1, _⟩
  · exact .inr ⟨h1.symm, by omega⟩
  · exact .inl h1
theorem bef_split {pre ps : List Pl} {p q : Pl} (h : (pre ++ p :: ps).Pairwise Bef) (hq : q ∈ pre ++ p :: ps) (hb : Bef q p) : q ∈ pre := by
  rcases List.mem_append.mp hq with z | z
  · exact z
  · exfalso
    rcases List.mem_cons.mp z with z | z
    · subst z
      unfold Bef at hb
      omega
    · have := (List.pairwise_cons.mp (List.pairwise_append.mp h).2.1).1 q z
      unfold Bef at hb this
      omega
theorem bef_new {pre ps : List Pl} {p : Pl} (h : (pre ++ p :: ps).Pairwise Bef) : p ∉ pre := fun z => by
  have := (List.pairwise_append.mp h).2.2 p z p (List.mem_cons_self ..)
  unfold Bef at this
  omega
abbrev RlV (t : List (Option Int)) (rs : List (List Ed)) (l m : Nat) (q : Pl) (e : Option Ent) : Prop := Rel (val t rs l m) (folF t rs l m q) e (val t rs l m q)
theorem tab_go (ho : EdOk rs) (ha : EdAsc rs) (hl : 1 ≤ l) : ∀ (ps pre : List Pl) (T : List (Pl × Ent)), TIn (RlV t rs l m) T (· ∈ pre) → (pre ++ ps).Pairwise Bef → (∀ p ∈ ps, ∀ o ∈ folF t rs l m p, o.1 ∈ pre ++ ps) →
    TIn (RlV t rs l m) (ps.foldl (stepT t rs l m) T) (· ∈ pre ++ ps)
  | [], pre, T, h, _, _ => by rw [List.append_nil]; exact h
  | p :: ps, pre, T, h, hP, hin => by
    rw [List.foldl_cons]
    have hs : TIn (RlV t rs l m) (stepT t rs l m T p) (· ∈ pre ++ [p]) := by
      refine h.step (e := bestB t rs l m T p) (bef_new hP) (best_rel ho ha hl fun o hmem => ?_) ?_ (fun q => by rw [List.mem_append, List.mem_singleton])
      · exact (h o.1).1 (bef_split hP (hin p (List.mem_cons_self ..) o hmem) (fol_bef ho hl hmem))
      · unfold stepT
        cases bestB t rs l m T p <;> rfl
    have := tab_go ho ha hl ps (pre ++ [p]) _ hs (by rw [List.append_assoc]; exact hP) (fun q hq o hmem => by rw [List.append_assoc]; exact hin q (List.mem_cons_of_mem _ hq) o hmem)
    rw [List.append_assoc] at this
    exact this
theorem pls_bef {n m : Nat} : (plsF n m).reverse.Pairwise Bef := by
  refine List.pairwise_reverse.mpr ?_
  unfold plsF
  refine List.pairwise_flatMap.mpr ⟨fun a _ => ?_, ?_⟩
  · unfold plRow
    refine List.pairwise_map.mpr ?_
    refine List.Pairwise.imp_of_mem ?_ (List.pairwise_lt_range (n := m + 1))
    intro i j hi hj hlt
    have h1 := List.mem_range.mp hi
    have h2 := List.mem_range.mp hj
    right
    show a = a ∧ m - j < m - i
    omega
  · refine List.Pairwise.imp ?_ (List.pairwise_lt_range (n := n + 1))
    intro a b hlt x hx y hy
    unfold plRow at hx hy
    obtain ⟨i, _, rfl⟩ := List.mem_map.mp hx
    obtain ⟨j, _, rfl⟩ := List.mem_map.mp hy
    exact .inl hlt
theorem fol_in (ho : EdOk rs) {p : Pl} (hp : p.2 ≤ m) (hp1 : p.1 ≤ rs.length) {o : Op} (h : o ∈ folF t rs l m p) : o.1.1 ≤ rs.length ∧ o.1.2 ≤ m := by
  rcases fol_mem ho h with ⟨h1, h2, h3, h4⟩ | ⟨h1, h2, h3, h4, _⟩
  · exact ⟨by omega, by omega⟩
  · exact ⟨h2, by omega⟩
theorem tab_ok (ho : EdOk rs) (ha : EdAsc rs) (hl : 1 ≤ l) {q : Pl} (h1 : q.1 ≤ rs.length) (h2 : q.2 ≤ m) : RlV t rs l m q (look (tabF t rs l m) q) := by
  have h := tab_go (t := t) (rs := rs) (l := l) (m := m) ho ha hl (plsF rs.length m).reverse [] [] (fun q => ⟨nofun, fun _ => rfl⟩) (by rw [List.nil_append]; exact pls_bef) (fun p hp o hmem => by
    rw [List.nil_append]
    obtain ⟨a, b⟩ := plsF_mem.mp (List.mem_reverse.mp hp)
    exact List.mem_reverse.mpr (plsF_mem.mpr (fol_in ho b a hmem)))
  rw [List.nil_append] at h
  exact (h q).1 (List.mem_reverse.mpr (plsF_mem.mpr ⟨h1, h2⟩))
end
end K77

set_option Elab.async false
set_option linter.all false
set_option maxRecDepth 100000
set_option maxHeartbeats 1000000
namespace K77
open PySem PySem.Spec PyProof.Rows L2 Z PySem.W
def pZ (q : List Nat) : Z.D := .tup (q.map nD)
def pgZ (p : Pgs) : Z.D := .tup (p.map pZ)
def dueD : Option W → Z.D
  | none => .non
  | some w => .tup [.int w.1, pgZ w.2.2.2]
def hdP (q : List Nat) : Pgs → Pgs
  | [] => []
  | h :: r => (q ++ h) :: r
section
variable {t : List (Option Int)} {rs : List (List Ed)} {l m : Nat} {A B C L M cost : Z.D}
theorem walk_ok (ho : EdOk rs) (ha : EdAsc rs) (hl : 1 ≤ l) : ∀ (k : Nat) (p : Pl) (fs : List (List Nat)) (q : List Nat) (w : W) (x10 : Option Sl), p.1 ≤ rs.length → p.2 ≤ m → val t rs l m p = some w → mu rs.length p < k → fs.length + q.length + mu rs.length p ≤ 2000 →
    ∃ y6 fs' q' y10, whlS (isS true (bin2 ixG (bin2 dgG (vS 5) (vS 6)) (cS (.int 1)))) l_best_pages_1 k [some (.dat A), some (.dat B), some (.dat C), some (.dat L), some (.dat M), some (.own (tkD (tabF t rs l m))), some (.dat (plD p)), some (.dat cost), some (.own (.lst (fs.map pZ))), some (.own (.lst (q.map nD))), x10] =
      some (.nx [some (.dat A), some (.dat B), some (.dat C), some (.dat L), some (.dat M), some (.own (tkD (tabF t rs l m))), y6, some (.dat cost), some (.own (.lst (fs'.map pZ))), some (.own (.lst (q'.map nD))), y10]) ∧ fs' ++ [q'] = fs ++ hdP q w.2.2.2 ∧ fs'.length ≤ 2000
  | 0, _, _, _, _, _, _, _, _, h, _ => absurd h (Nat.not_lt_zero _)
  | k + 1, p, fs, q, w, x10, hp1, hp2, hv, hk, hs => by
    have ht := tab_ok (t := t) (l := l) ho ha hl hp1 hp2
    have hvz : valZ ((tabF t rs l m).map fun x => keyP x.1) ((tabF t rs l m).map fun x => entD x.2) [.inl (p.1 : Int), .inl (p.2 : Int)] = (look (tabF t rs l m) p).map entD := look_val _
    rcases ht with ⟨_, e⟩ | ⟨r, b, w', e1, e2, e3, e4⟩
    · rw [hv] at e; cases e
    · rw [hv] at e2
      cases e2
      rw [e1] at hvz
      have hcond : (isS true (bin2 ixG (bin2 dgG (vS 5) (vS 6)) (cS (.int 1)))) [some (.dat A), some (.dat B), some (.dat C), some (.dat L), some (.dat M), some (.own (tkD (tabF t rs l m))), some (.dat (plD p)), some (.dat cost), some (.own (.lst (fs.map pZ))), some (.own (.lst (q.map nD))), x10] =
          some (isN (bhD b) != true, [some (.dat A), some (.dat B), some (.dat C), some (.dat L), some (.dat M), some (.own (tkD (tabF t rs l m))), some (.dat (plD p)), some (.dat cost), some (.own (.lst (fs.map pZ))), some (.own (.lst (q.map nD))), x10]) := by
        unfold tkD
        generalize ((tabF t rs l m).map fun x => keyP x.1) = ks at *
        generalize ((tabF t rs l m).map fun x => entD x.2) = ds at *
        simp [plD, hvz, entD, rkD]
      unfold whlS
      rw [hcond, Option.bind_some]
      cases b with
      | none =>
        refine ⟨_, fs, q, x10, rfl, ?_, by omega⟩
        rw [show w.2.2.2 = [[]] from e4]
        show fs ++ [q] = fs ++ [q ++ []]
        rw [List.append_nil]
      | some p2 =>
        obtain ⟨c, w2, e5, e6, e7⟩ := e4
        obtain ⟨g1, g2⟩ := fol_in ho hp2 hp1 e7
        have g3 : mu rs.length p2 < mu rs.length p := fol_mu ho hl e7
        have g4 := val_sz ho hl e5
        obtain ⟨h2, r2, e8, _, _⟩ := g4
        show ∃ y6 fs' q' y10, Option.bind (l_best_pages_1 _) _ = _ ∧ _
        have c2 : ((p2.2 : Int) = 0) = (p2.2 = 0) := propext ⟨fun z => by omega, fun z => by omega⟩
        by_cases c0 : p2.2 = 0
        · have hb : l_best_pages_1 [some (.dat A), some (.dat B), some (.dat C), some (.dat L), some (.dat M), some (.own (tkD (tabF t rs l m))), some (.dat (plD p)), some (.dat cost), some (.own (.lst (fs.map pZ))), some (.own (.lst (q.map nD))), x10] =
              some (.nx [some (.dat A), some (.dat B), some (.dat C), some (.dat L), some (.dat M), some (.own (tkD (tabF t rs l m))), some (.dat (plD p2)), some (.dat cost), some (.own (.lst ((fs ++ [q]).map pZ))), some (.own (.lst (([] : List Nat).map nD))), some (.dat (plD p2))]) := by
            have gl : fs.length < 16777216 := by omega
            unfold tkD
            generalize ((tabF t rs l m).map fun x => keyP x.1) = ks at *
            generalize ((tabF t rs l m).map fun x => entD x.2) = ds at *
            simp [l_best_pages_1, plD, hvz, entD, rkD, bhD, c0, pZ, gl]
          rw [hb, Option.bind_some]
          obtain ⟨y6, fs', q', y10, i1, i2, i3⟩ := walk_ok ho ha hl k p2 (fs ++ [q]) [] w2 (some (.dat (plD p2))) g1 g2 e5 (by omega) (by rw [List.length_append, List.length_singleton, List.length_nil]; omega)
          refine ⟨y6, fs', q', y10, i1, ?_, i3⟩
          rw [i2, e6, e8]
          unfold ext
          rw [if_pos c0, e8]
          show (fs ++ [q]) ++ (([] ++ h2) :: r2) = fs ++ ((q ++ []) :: h2 :: r2)
          rw [List.append_nil, List.append_assoc]
          rfl
        · have hb : l_best_pages_1 [some (.dat A), some (.dat B), some (.dat C), some (.dat L), some (.dat M), some (.own (tkD (tabF t rs l m))), some (.dat (plD p)), some (.dat cost), some (.own (.lst (fs.map pZ))), some (.own (.lst (q.map nD))), x10] =
              some (.nx [some (.dat A), some (.dat B), some (.dat C), some (.dat L), some (.dat M), some (.own (tkD (tabF t rs l m))), some (.dat (plD p2)), some (.dat cost), some (.own (.lst (fs.map pZ))), some (.own (.lst ((q ++ [p2.1]).map nD))), some (.dat (plD p2))]) := by
            have gl : q.length < 16777216 := by omega
            unfold tkD
            generalize ((tabF t rs l m).map fun x => keyP x.1) = ks at *
            generalize ((tabF t rs l m).map fun x => entD x.2) = ds at *
            simp [l_best_pages_1, plD, hvz, entD, rkD, bhD, c2, c0, nD, gl]
          rw [hb, Option.bind_some]
          obtain ⟨y6, fs', q', y10, i1, i2, i3⟩ := walk_ok ho ha hl k p2 fs (q ++ [p2.1]) w2 (some (.dat (plD p2))) g1 g2 e5 (by omega) (by rw [List.length_append, List.length_singleton]; omega)
          refine ⟨y6, fs', q', y10, i1, ?_, i3⟩
          rw [i2, e6, e8]
          unfold ext
          rw [if_neg c0, e8]
          show fs ++ (((q ++ [p2.1]) ++ h2) :: r2) = fs ++ ((q ++ (p2.1 :: h2)) :: r2)
          rw [List.append_assoc]
          rfl
end
theorem best_ok {b b2 : Bool} {ps : List Pc} {r : Fr} {t : List (Option Int)} {l m : Nat} (hp : ∀ p ∈ ps, PcOk p) (hr : FrOk r) (hr0 : 1 ≤ r.1) (hl0 : 1 ≤ ps.length) (hl : ps.length ≤ 400) (ht : t.length = ps.length) (htn : TnOk t) (h1 : 1 ≤ l) (h2 : l ≤ m) (h3 : m ≤ 12)
    {rs : List (List Ed)} (hrs : rs = rowsF (sums (com r.2 ps) (0, 0, 0) ps) (sc (com r.2 ps) r) ps.length) (ho : EdOk rs) (ha : EdAsc rs) (hlen : ∀ i, (row rs i).length ≤ 1000) :
    m_best_pages [psD b ps, frD false r, tnD b2 t, .int (l : Int), .int (m : Int)] = some (.dat (dueD (val t rs l m (0, 0)))) := by
  have hn : rs.length = ps.length := by rw [hrs]; unfold rowsF; simp
  have hP := pages_ok (b := b) (b2 := b2) (l := (l : Int)) (m := (m : Int)) hp hr hr0 hl0 hl ht htn (by omega) (by omega) (by omega)
  rw [← hrs] at hP
  have hobj : Z.D.obj "Pages" ["lines", "many", "turns", "least", "most", "_from"] [linesD ps.length (sc (com r.2 ps) r) (sums (com r.2 ps) (0, 0, 0) ps), .int ps.length, tnD b2 t, .int l, .int m, .lst (rs.map rowD)] = pgD (linesD ps.length (sc (com r.2 ps) r) (sums (com r.2 ps) (0, 0, 0) ps)) b2 t rs l m := by
    unfold pgD pgsD
    rw [hn]
  have hB := bb_ok (lines := linesD ps.length (sc (com r.2 ps) r) (sums (com r.2 ps) (0, 0, 0) ps)) (b := b2) (l := l) (m := m) (by rw [ht, hn]) ho hlen (by omega) h3
  have h00 := tab_ok (t := t) (l := l) (m := m) (q := (0, 0)) ho ha h1 (Nat.zero_le _) (Nat.zero_le _)
  have hvz : valZ ((tabF t rs l m).map fun x => keyP x.1) ((tabF t rs l m).map fun x => entD x.2) [.inl ((0, 0) : Pl).1, .inl ((0, 0) : Pl).2] = (look (tabF t rs l m) (0, 0)).map entD := look_val _
  rw [← hobj] at hB
  have hmu : mu rs.length (0, 0) ≤ 800 := by
    unfold mu
    show 2 * (rs.length - 0) + (if 0 = 0 then 0 else 1) ≤ 800
    rw [if_pos rfl]; omega
  generalize psD b ps = A at *
  generalize frD false r = B at *
  generalize tnD b2 t = C at *
  rcases h00 with ⟨e1, e2⟩ | ⟨rr, bb, w, e1, e2, e3, e4⟩
  · rw [e1] at hvz
    rw [e2]
    unfold tkD at hB
    generalize ((tabF t rs l m).map fun x => keyP x.1) = ks at *
    generalize ((tabF t rs l m).map fun x => entD x.2) = ds at *
    have hvz' : valZ ks ds [.inl 0, .inl 0] = none := hvz
    simp [m_best_pages, b_best_pages, hP, hB, hvz', dueD]
  · rw [e1] at hvz
    obtain ⟨y6, fs', q', y10, i1, i2, i3⟩ := walk_ok (t := t) (l := l) (m := m) (A := A) (B := B) (C := C) (L := .int (l : Int)) (M := .int (m : Int)) (cost := .int w.1) ho ha h1 1000 (0, 0) [] [] w none (Nat.zero_le _) (Nat.zero_le _) e2 (by omega) (by simp; omega)
    have hpl : plD (0, 0) = .tup [.int 0, .int 0] := rfl
    have hw : hdP [] w.2.2.2 = w.2.2.2 := by cases w.2.2.2 <;> rfl
    rw [List.nil_append, hw] at i2
    rw [e2]
    have gl : fs'.length + 1 ≤ 16777216 := by omega
    unfold tkD at hB i1
    rw [hpl] at i1
    generalize ((tabF t rs l m).map fun x => keyP x.1) = ks at *
    generalize ((tabF t rs l m).map fun x => entD x.2) = ds at *
    have hvz' : valZ ks ds [.inl 0, .inl 0] = some (.tup [.tup [.int w.1, .int w.2.1, .int w.2.2.1], bhD bb]) := by rw [show valZ ks ds [.inl 0, .inl 0] = some (entD (rr, bb)) from hvz, e3]; rfl
    have hfin : Z.D.tup [.int w.1, .tup (fs'.map pZ ++ [.tup (q'.map nD)])] = dueD (some w) := by
      show _ = Z.D.tup [.int w.1, .tup (w.2.2.2.map pZ)]
      rw [← i2, List.map_append]
      rfl
    rw [← hfin]
    simp only [List.map_nil] at i1
    simp [m_best_pages, b_best_pages, hP, hB, hvz', i1, gl]
end K77

set_option Elab.async false
set_option linter.all false
set_option maxRecDepth 100000
set_option maxHeartbeats 1000000
namespace K77
open PySem PySem.Spec PyProof.Rows L2 Z
/-! tables of least costs forward; what goes on from a place in the law -/
abbrev Tf := List (Pl × Int)
def tfD (T : Tf) : OC := .dct (T.map fun x => keyP x.1) (T.map fun x => Z.D.int x.2)
def putT (T : Tf) (q : Pl) (s : Int) : Tf := if (look T q).isSome then T.map fun x => if x.1 = q then (x.1, s) else x else T ++ [(q, s)]
theorem look_any {α : Type} {T : List (Pl × α)} {q : Pl} : ((T.map fun x => keyP x.1).any fun j => decide (j = keyP q)) = (look T q).isSome := by
  induction T with
  | nil => rfl
  | cons x T ih =>
    unfold look at ih ⊢
    rw [List.map_cons, List.any_cons, List.find?_cons, ih]
    by_cases c : x.1 = q
    · rw [decide_eq_true (show keyP x.1 = keyP q by rw [c]), decide_eq_true c]; rfl
    · rw [decide_eq_false (fun z => c (keyP_inj z)), decide_eq_false c]; rfl
theorem put_tf {T : Tf} {q : Pl} {s : Int} : putZ (T.map fun x => keyP x.1) (T.map fun x => Z.D.int x.2) (keyP q) (.int s) = ((putT T q s).map fun x => keyP x.1, (putT T q s).map fun x => Z.D.int x.2) := by
  unfold putZ putT
  rw [look_any]
  by_cases c : (look T q).isSome = true
  · rw [if_pos c, if_pos c, List.map_map, List.map_map]
    congr 1
    · refine List.map_congr_left fun x _ => ?_
      show keyP x.1 = keyP (if x.1 = q then (x.1, s) else x).1
      split <;> rfl
    · clear c
      induction T with
      | nil => rfl
      | cons x T ih =>
        rw [List.map_cons, List.map_cons, List.zipWith_cons_cons, ih, List.map_cons]
        congr 1
        show _ = Z.D.int (if x.1 = q then (x.1, s) else x).2
        by_cases c : x.1 = q
        · rw [if_pos c, if_pos (by rw [c])]
        · rw [if_neg c, if_neg (fun z => c (keyP_inj z))]
  · rw [if_neg c, if_neg c]; simp
/-- keys are different -/
def Kd {α : Type} (T : List (Pl × α)) : Prop := (T.map (·.1)).Nodup
theorem look_mem {α : Type} {T : List (Pl × α)} {q : Pl} {v : α} (h : look T q = some v) : (q, v) ∈ T := by
  unfold look at h
  obtain ⟨x, hx, rfl⟩ := Option.map_eq_some_iff.mp h
  have h1 := List.mem_of_find?_eq_some hx
  have h2 := List.find?_some hx
  have : x.1 = q := by simpa using h2
  subst this
  exact h1
theorem look_of {α : Type} : ∀ {T : List (Pl × α)} {q : Pl} {v : α}, Kd T → (q, v) ∈ T → look T q = some v
  | x :: T, q, v, hk, h => by
    unfold Kd at hk
    rw [List.map_cons, List.nodup_cons] at hk
    unfold look
    rw [List.find?_cons]
    rcases List.mem_cons.mp h with e | e
    · subst e
      rw [decide_eq_true rfl]; rfl
    · have : ¬ x.1 = q := fun z => hk.1 (by rw [z]; exact List.mem_map.mpr ⟨_, e, rfl⟩)
      rw [decide_eq_false this]
      exact look_of (T := T) hk.2 e
theorem putT_keys {T : Tf} {q : Pl} {s : Int} : (putT T q s).map (·.1) = if (look T q).isSome then T.map (·.1) else T.map (·.1) ++ [q] := by
  unfold putT
  split
  · rw [List.map_map]
    refine List.map_congr_left fun x _ => ?_
    show (if x.1 = q then (x.1, s) else x).1 = x.1
    split <;> rfl
  · simp
theorem look_none_keys {α : Type} {T : List (Pl × α)} {q : Pl} : look T q = none ↔ q ∉ T.map (·.1) := by
  unfold look
  rw [Option.map_eq_none_iff, List.find?_eq_none]
  constructor
  · intro h z
    obtain ⟨x, hx, e⟩ := List.mem_map.mp z
    exact h x hx (by simpa using e)
  · intro h x hx e
    exact h (List.mem_map.mpr ⟨x, hx, by simpa using e⟩)
theorem putT_kd {T : Tf} {q : Pl} {s : Int} (h : Kd T) : Kd (putT T q s) := by
  unfold Kd
  rw [putT_keys]
  split
  · exact h
  · rename_i c
    have : look T q = none := by
      cases e : look T q with
      | none => rfl
      | some v => rw [e] at c; exact absurd rfl c
    have hn := look_none_keys.mp this
    refine List.nodup_append.mpr ⟨h, by simp, fun a ha b hb e => ?_⟩
    rw [List.mem_singleton.mp hb] at e
    exact hn (e ▸ ha)
theorem look_map {T : Tf} {q r : Pl} {s : Int} : look (T.map fun x => if x.1 = q then (x.1, s) else x) r = (look T r).map fun v => if r = q then s else v := by
  induction T with
  | nil => rfl
  | cons x T ih =>
    unfold look at ih ⊢
    rw [List.map_cons, List.find?_cons, List.find?_cons]
    have e1 : (if x.1 = q then (x.1, s) else x).1 = x.1 := by split <;> rfl
    rw [e1]
    by_cases c : x.1 = r
    · rw [decide_eq_true c]
      show some (if x.1 = q then (x.1, s) else x).2 = some _
      rw [← c]
      split <;> rfl
    · rw [decide_eq_false c]
      exact ih
theorem look_put {T : Tf} {q r : Pl} {s : Int} : look (putT T q s) r = if r = q then some s else look T r := by
  unfold putT
  by_cases c : (look T q).isSome = true
  · rw [if_pos c, look_map]
    by_cases d : r = q
    · subst d
      rw [if_pos rfl]
      cases e : look T r with
      | none => rw [e] at c; cases c
      | some v => simp
    · rw [if_neg d]
      cases e : look T r with
      | none => rfl
      | some v => simp [d]
  · rw [if_neg c, look_snoc]
    by_cases d : r = q
    · subst d
      have : look T r = none := by
        cases e : look T r with
        | none => rfl
        | some v => rw [e] at c; exact absurd rfl c
      rw [this]; simp
    · rw [if_neg d, if_neg (fun z => d z.symm)]; simp
theorem putT_same {T : Tf} {q : Pl} {s : Int} (hk : Kd T) (h : look T q = some s) : putT T q s = T := by
  unfold putT
  rw [h, if_pos (show (some s).isSome = true from rfl)]
  conv => rhs; rw [← List.map_id T]
  refine List.map_congr_left fun x hx => ?_
  split
  · rename_i c
    have := look_of hk (show (x.1, x.2) ∈ T from hx)
    rw [c, h] at this
    cases this
    exact Prod.ext rfl rfl
  · rfl
/-- one step on from p -/
def relax (p : Pl) (T : Tf) (o : Op) : Tf := match look T p with
  | none => T
  | some v => match look T o.1 with
    | none => putT T o.1 (v + o.2)
    | some u => if v + o.2 < u then putT T o.1 (v + o.2) else T
theorem relax_kd {p : Pl} {T : Tf} {o : Op} (h : Kd T) : Kd (relax p T o) := by
  unfold relax
  split
  · exact h
  · split
    · exact putT_kd h
    · split
      · exact putT_kd h
      · exact h
theorem putT_len {T : Tf} {q : Pl} {s : Int} : (putT T q s).length ≤ T.length + 1 := by
  unfold putT
  split <;> simp
theorem relax_len {p : Pl} {T : Tf} {o : Op} : (relax p T o).length ≤ T.length + 1 := by
  unfold relax
  split
  · omega
  · split
    · exact putT_len
    · split
      · exact putT_len
      · omega
theorem relax_src {p : Pl} {T : Tf} {o : Op} {v : Int} (h : look T p = some v) : ∃ u, look (relax p T o) p = some u := by
  unfold relax
  rw [h]
  dsimp only
  split
  · rw [look_put]; split <;> exact ⟨_, by first | rfl | exact h⟩
  · split
    · rw [look_put]; split <;> exact ⟨_, by first | rfl | exact h⟩
    · exact ⟨_, h⟩
theorem relax_put {p : Pl} {T : Tf} {o : Op} {v : Int} (hk : Kd T) (h : look T p = some v) : relax p T o = putT T o.1 (if (look T o.1).getD (v + o.2) < v + o.2 then (look T o.1).getD (v + o.2) else v + o.2) := by
  unfold relax
  rw [h]
  cases e : look T o.1 with
  | none => simp
  | some u =>
    dsimp only [Option.getD]
    by_cases c : v + o.2 < u
    · rw [if_pos c, if_neg (by omega)]
    · rw [if_neg c]
      by_cases d : u < v + o.2
      · rw [if_pos d, putT_same hk e]
      · rw [if_neg d, show v + o.2 = u by omega, putT_same hk e]
end K77

set_option Elab.async false
set_option linter.all false
set_option maxRecDepth 100000
set_option maxHeartbeats 1000000
namespace K77
open PySem PySem.Spec PyProof.Rows L2 Z
section
variable {lines : Z.D} {t : List (Option Int)} {rs : List (List Ed)} {l m : Nat} {b : Bool}
def TNp (t : List (Option Int)) (l m : Nat) : Z.D := .tup [.tup (t.map oi), .int (l : Int), .int (m : Int)]
theorem steps_ok (ht : t.length = rs.length) (ho : EdOk rs) (hlen : ∀ i, (row rs i).length ≤ 1000) {p : Pl} (hp : p.1 ≤ rs.length) (hp2 : p.2 ≤ m) : m__law_steps [.lst (rs.map rowD), TNp t l m, plD p] = some (.own (.lst ((folF t rs l m p).map opD))) := by
  by_cases c1 : p.1 = rs.length
  · have c1' : (p.1 : Int) = (rs.length : Int) := by omega
    have e : folF t rs l m p = [] := by
      unfold folF turnF lnsF
      rw [if_neg (fun z => by omega), if_pos (.inl c1)]; rfl
    rw [e]
    simp [-s_lcS, m__law_steps, b__law_steps, plD, TNp, c1]
  · have c1' : ¬ (p.1 : Int) = (rs.length : Int) := by omega
    have hat := at_O (f := t) (i := p.1) (by omega)
    have har := at_row (rs := rs) (i := p.1) (by omega)
    have hl2 : (row rs p.1).length ≤ 1000 := hlen p.1
    have lc : ∀ (found : Option Sl), lcS (seqI (bin2 ixG (vS 0) (vS 6))) (tupB 2 (consB (nmB 9) (consB (nmB 10) nilB))) yesT e__law_steps_1 [9, 10] [some (.dat (.lst (rs.map rowD))), some (.dat (TNp t l m)), some (.dat (plD p)), some (.dat (.tup (t.map oi))), some (.dat (.int (l : Int))), some (.dat (.int (m : Int))), some (.dat (.int (p.1 : Int))), some (.dat (.int (p.2 : Int))), found, none, none] =
        some (.own (.lst (((row rs p.1).map fun e => (((e.1.toNat, p.2 + 1), e.2) : Op)).map opD)), [some (.dat (.lst (rs.map rowD))), some (.dat (TNp t l m)), some (.dat (plD p)), some (.dat (.tup (t.map oi))), some (.dat (.int (l : Int))), some (.dat (.int (m : Int))), some (.dat (.int (p.1 : Int))), some (.dat (.int (p.2 : Int))), found, none, none]) := by
      intro found
      have k := lcS_mapG (fi := seqI (bin2 ixG (vS 0) (vS 6))) (gb := tupB 2 (consB (nmB 9) (consB (nmB 10) nilB))) (f := e__law_steps_1) (vs := [9, 10])
        (env := [some (.dat (.lst (rs.map rowD))), some (.dat (TNp t l m)), some (.dat (plD p)), some (.dat (.tup (t.map oi))), some (.dat (.int (l : Int))), some (.dat (.int (m : Int))), some (.dat (.int (p.1 : Int))), some (.dat (.int (p.2 : Int))), found, none, none]) (env1 := [some (.dat (.lst (rs.map rowD))), some (.dat (TNp t l m)), some (.dat (plD p)), some (.dat (.tup (t.map oi))), some (.dat (.int (l : Int))), some (.dat (.int (m : Int))), some (.dat (.int (p.1 : Int))), some (.dat (.int (p.2 : Int))), found, none, none])
        (ds := (row rs p.1).map eD) (fun d => match d with | .tup [.int i, .int j] => .tup [.tup [.int i, .int (p.2 + 1)], .int j] | d => d) (by simp [har, rowD]) (by simp; omega) rfl (fun d hd => by
          obtain ⟨e, he, rfl⟩ := List.mem_map.mp hd
          exact ⟨[some (.dat (.lst (rs.map rowD))), some (.dat (TNp t l m)), some (.dat (plD p)), some (.dat (.tup (t.map oi))), some (.dat (.int (l : Int))), some (.dat (.int (m : Int))), some (.dat (.int (p.1 : Int))), some (.dat (.int (p.2 : Int))), found, some (.dat (.int e.1)), some (.dat (.int e.2))], .dat (.tup [.tup [.int e.1, .int (p.2 + 1)], .int e.2]), by simp [eD], by simp [e__law_steps_1], rfl, by simp⟩)
      have e1 : ((row rs p.1).map eD).map (fun d => match d with | .tup [.int i, .int j] => .tup [.tup [.int i, .int (p.2 + 1)], .int j] | d => d) = (((row rs p.1).map fun e => ((e.1.toNat, p.2 + 1), e.2)) : List Op).map opD := by
        rw [List.map_map, List.map_map]
        refine List.map_congr_left fun e he => ?_
        obtain ⟨j, h1, _⟩ := ho p.1 e he
        show Z.D.tup [.tup [.int e.1, .int (p.2 + 1)], .int e.2] = .tup [.tup [.int ((e.1.toNat : Nat) : Int), .int ((p.2 + 1 : Nat) : Int)], .int e.2]
        rw [h1]
        rfl
      rw [e1] at k
      exact k
    have g1 : 1 + (row rs p.1).length ≤ 16777216 := by omega
    have g2 : (row rs p.1).length ≤ 16777216 := by omega
    have hlt : ((p.2 : Int) < (m : Int)) = (p.2 < m) := propext ⟨fun z => by omega, fun z => by omega⟩
    have hle : ((l : Int) ≤ (p.2 : Int)) = (l ≤ p.2) := propext ⟨fun z => by omega, fun z => by omega⟩
    have hadd : ∀ q : Option Sl, True := fun _ => trivial
    unfold folF turnF lnsF
    have lc' := lc (some (.own (.lst [])))
    have lc2 := fun c : Int => lc (some (.own (.lst [.tup [.tup [.int (p.1 : Int), .int 0], .int c]])))
    simp only [TNp, plD] at lc' lc2
    by_cases c2 : l ≤ p.2
    · rw [if_pos ⟨c2, by omega⟩]
      cases hg : gO t p.1 with
      | none =>
        rw [hg] at hat
        by_cases c3 : p.2 < m
        · rw [if_neg (fun z => by omega)]
          simp [-s_lcS, m__law_steps, b__law_steps, plD, TNp, c1', hle, hlt, c2, c3, hat, oi, lc', g2]
        · rw [if_pos (.inr (by omega))]
          simp [-s_lcS, m__law_steps, b__law_steps, plD, TNp, c1', hle, hlt, c2, c3, hat, oi]
      | some c =>
        rw [hg] at hat
        by_cases c3 : p.2 < m
        · rw [if_neg (fun z => by omega)]
          simp [-s_lcS, m__law_steps, b__law_steps, plD, TNp, c1', hle, hlt, c2, c3, hat, oi, lc2, g1, opD]
        · rw [if_pos (.inr (by omega))]
          simp [-s_lcS, m__law_steps, b__law_steps, plD, TNp, c1', hle, hlt, c2, c3, hat, oi, opD]
    · rw [if_neg (fun z => c2 z.1)]
      by_cases c3 : p.2 < m
      · rw [if_neg (fun z => by omega)]
        simp [-s_lcS, m__law_steps, b__law_steps, plD, TNp, c1', hle, hlt, c2, c3, lc', g2]
      · rw [if_pos (.inr (by omega))]
        simp [-s_lcS, m__law_steps, b__law_steps, plD, TNp, c1', hle, hlt, c2, c3]
/-! ### the inner loops -/
theorem pp_1 {A B C E G P : Option Sl} {T : Tf} {p : Pl} {o : Op} {v : Int} (hk : Kd T) (hv : look T p = some v) (hlen : T.length < 16777216) {x10 : Option Sl} : ∃ y10, l_page_potentials_1 [A, B, C, E, G, P, some (.own (tfD T)), some (.dat (plD p)), some (.dat (plD o.1)), some (.dat (.int o.2)), x10] =
    some (.nx [A, B, C, E, G, P, some (.own (tfD (relax p T o))), some (.dat (plD p)), some (.dat (plD o.1)), some (.dat (.int o.2)), y10]) := by
  have h1 : valZ (T.map fun x => keyP x.1) (T.map fun x => Z.D.int x.2) [.inl (p.1 : Int), .inl (p.2 : Int)] = (look T p).map Z.D.int := look_val (g := Z.D.int) T
  have h2 : valZ (T.map fun x => keyP x.1) (T.map fun x => Z.D.int x.2) [.inl (o.1.1 : Int), .inl (o.1.2 : Int)] = (look T o.1).map Z.D.int := look_val (g := Z.D.int) T
  have h3 : ∀ s : Int, putZ (T.map fun x => keyP x.1) (T.map fun x => Z.D.int x.2) [.inl (o.1.1 : Int), .inl (o.1.2 : Int)] (.int s) = ((putT T o.1 s).map fun x => keyP x.1, (putT T o.1 s).map fun x => Z.D.int x.2) := fun s => put_tf (T := T) (q := o.1) (s := s)
  have hl : (T.map fun x => keyP x.1).length < 16777216 := by simpa using hlen
  rw [relax_put hk hv]
  rw [hv] at h1
  unfold tfD
  refine ⟨some (.dat (.int (v + o.2))), ?_⟩
  generalize hks : (T.map fun x => keyP x.1) = ks at *
  generalize hds : (T.map fun x => Z.D.int x.2) = ds at *
  cases hl2 : look T o.1 with
  | none =>
    rw [hl2] at h2
    simp [l_page_potentials_1, plD, h1, h2, h3, hl]
  | some u =>
    rw [hl2] at h2
    simp [l_page_potentials_1, plD, h1, h2, h3, hl]
theorem ll_1 {A B : Option Sl} {T : Tf} {p : Pl} {o : Op} {v : Int} (hv : look T p = some v) (hlen : T.length < 16777216) {x7 : Option Sl} : ∃ y7, l__law_least_1 [A, B, some (.own (tfD T)), some (.dat (.int (p.1 : Int))), some (.dat (.int (p.2 : Int))), some (.dat (plD o.1)), some (.dat (.int o.2)), x7] =
    some (.nx [A, B, some (.own (tfD (relax p T o))), some (.dat (.int (p.1 : Int))), some (.dat (.int (p.2 : Int))), some (.dat (plD o.1)), some (.dat (.int o.2)), y7]) := by
  have h1 : valZ (T.map fun x => keyP x.1) (T.map fun x => Z.D.int x.2) [.inl (p.1 : Int), .inl (p.2 : Int)] = (look T p).map Z.D.int := look_val (g := Z.D.int) T
  have h2 : valZ (T.map fun x => keyP x.1) (T.map fun x => Z.D.int x.2) [.inl (o.1.1 : Int), .inl (o.1.2 : Int)] = (look T o.1).map Z.D.int := look_val (g := Z.D.int) T
  have h3 : ∀ s : Int, putZ (T.map fun x => keyP x.1) (T.map fun x => Z.D.int x.2) [.inl (o.1.1 : Int), .inl (o.1.2 : Int)] (.int s) = ((putT T o.1 s).map fun x => keyP x.1, (putT T o.1 s).map fun x => Z.D.int x.2) := fun s => put_tf (T := T) (q := o.1) (s := s)
  have hl : (T.map fun x => keyP x.1).length < 16777216 := by simpa using hlen
  unfold relax
  rw [hv] at h1 ⊢
  refine ⟨some (.dat (.int (v + o.2))), ?_⟩
  cases hl2 : look T o.1 with
  | none =>
    rw [hl2] at h2
    dsimp only
    unfold tfD
    generalize hks : (T.map fun x => keyP x.1) = ks at *
    generalize hds : (T.map fun x => Z.D.int x.2) = ds at *
    simp [l__law_least_1, plD, h1, h2, h3, hl]
  | some u =>
    rw [hl2] at h2
    dsimp only
    by_cases c : v + o.2 < u
    · rw [if_pos c]
      unfold tfD
      generalize hks : (T.map fun x => keyP x.1) = ks at *
      generalize hds : (T.map fun x => Z.D.int x.2) = ds at *
      simp [l__law_least_1, plD, h1, h2, h3, hl, c]
    · rw [if_neg c]
      unfold tfD
      generalize hks : (T.map fun x => keyP x.1) = ks at *
      generalize hds : (T.map fun x => Z.D.int x.2) = ds at *
      simp [l__law_least_1, plD, h1, h2, h3, hl, c]
end
end K77

set_option Elab.async false
set_option linter.all false
set_option maxRecDepth 100000
set_option maxHeartbeats 1000000
namespace K77
open PySem PySem.Spec PyProof.Rows L2 Z
theorem forS_os {α β : Type} {b : Fb} {f : Fs} (g : α → Z.D) (step : β → α → β) (P : β → Prop) (Q : α → Prop) (E : β → En → Prop)
    (h : ∀ o s env, Q o → P s → E s env → ∃ e1 e2, b (g o) env = some e1 ∧ f e1 = some (.nx e2) ∧ E (step s o) e2 ∧ P (step s o)) :
    ∀ (os : List α) (s : β) (env : En), (∀ o ∈ os, Q o) → P s → E s env → ∃ env', forS b f (os.map g) env = some (.nx env') ∧ E (os.foldl step s) env' ∧ P (os.foldl step s)
  | [], s, env, _, hP, hE => ⟨env, rfl, hE, hP⟩
  | o :: os, s, env, hQ, hP, hE => by
    obtain ⟨e1, e2, h1, h2, h3, h4⟩ := h o s env (hQ o List.mem_cons_self) hP hE
    obtain ⟨env', k1, k2, k3⟩ := forS_os g step P Q E h os (step s o) e2 (fun x hx => hQ x (List.mem_cons_of_mem _ hx)) h4 h3
    refine ⟨env', ?_, k2, k3⟩
    rw [List.map_cons]
    unfold forS
    rw [h1, Option.bind_some, h2, Option.bind_some]
    exact k1
theorem nodup_le {α : Type} [DecidableEq α] : ∀ {l L : List α}, l.Nodup → (∀ x ∈ l, x ∈ L) → l.length ≤ L.length
  | [], _, _, _ => Nat.zero_le _
  | x :: l, L, hn, h => by
    rw [List.nodup_cons] at hn
    have hx := h x List.mem_cons_self
    have ih := nodup_le (l := l) (L := L.erase x) hn.2 fun y hy => (List.mem_erase_of_ne (fun z : y = x => hn.1 (by rw [← z]; exact hy))).mpr (h y (List.mem_cons_of_mem _ hy))
    have hl := List.length_erase_of_mem hx
    have : 0 < L.length := List.length_pos_of_mem hx
    rw [List.length_cons]; omega
/-- a table of places that are there -/
def Rg (n m : Nat) (T : Tf) : Prop := Kd T ∧ ∀ x ∈ T, x.1.1 ≤ n ∧ x.1.2 ≤ m
theorem Rg.len {n m : Nat} {T : Tf} (h : Rg n m T) : T.length ≤ (n + 1) * (m + 1) := by
  have := nodup_le (L := plsF n m) h.1 fun p hp => by
    obtain ⟨x, hx, rfl⟩ := List.mem_map.mp hp
    exact plsF_mem.mpr (h.2 x hx)
  rw [plsF_len, List.length_map] at this
  exact this
theorem putT_mem {T : Tf} {q : Pl} {s : Int} {x : Pl × Int} (h : x ∈ putT T q s) : x.1 = q ∨ ∃ y ∈ T, y.1 = x.1 := by
  have : x.1 ∈ (putT T q s).map (·.1) := List.mem_map.mpr ⟨x, h, rfl⟩
  rw [putT_keys] at this
  split at this
  · obtain ⟨y, hy, e⟩ := List.mem_map.mp this; exact .inr ⟨y, hy, e⟩
  · rcases List.mem_append.mp this with h | h
    · obtain ⟨y, hy, e⟩ := List.mem_map.mp h; exact .inr ⟨y, hy, e⟩
    · exact .inl (List.mem_singleton.mp h)
theorem Rg.put {n m : Nat} {T : Tf} {q : Pl} {s : Int} (h : Rg n m T) (hq : q.1 ≤ n ∧ q.2 ≤ m) : Rg n m (putT T q s) := ⟨putT_kd h.1, fun x hx => by
  rcases putT_mem hx with e | ⟨y, hy, e⟩
  · rw [e]; exact hq
  · rw [← e]; exact h.2 y hy⟩
theorem Rg.relax {n m : Nat} {T : Tf} {p : Pl} {o : Op} (h : Rg n m T) (ho : o.1.1 ≤ n ∧ o.1.2 ≤ m) : Rg n m (relax p T o) := by
  unfold K77.relax
  split
  · exact h
  · split
    · exact h.put ho
    · split
      · exact h.put ho
      · exact h
section
variable {lines : Z.D} {t : List (Option Int)} {rs : List (List Ed)} {l m : Nat} {b : Bool}
def stepF (t : List (Option Int)) (rs : List (List Ed)) (l m : Nat) (T : Tf) (p : Pl) : Tf := (folF t rs l m p).foldl (relax p) T
def fwdF (t : List (Option Int)) (rs : List (List Ed)) (l m : Nat) : Tf := (plsF rs.length m).foldl (stepF t rs l m) [((0, 0), 0)]
theorem relax_none {p : Pl} {T : Tf} (h : look T p = none) : ∀ os : List Op, os.foldl (relax p) T = T
  | [] => rfl
  | o :: os => by
    have : relax p T o = T := by unfold relax; rw [h]
    rw [List.foldl_cons, this]
    exact relax_none h os
theorem fold_rg {n m : Nat} {p : Pl} : ∀ (os : List Op) {T : Tf}, Rg n m T → (∀ o ∈ os, o.1.1 ≤ n ∧ o.1.2 ≤ m) → Rg n m (os.foldl (relax p) T)
  | [], T, h, _ => h
  | o :: os, T, h, ho => fold_rg os (h.relax (ho o List.mem_cons_self)) fun x hx => ho x (List.mem_cons_of_mem _ hx)
theorem stepF_rg (he : EdOk rs) {T : Tf} {p : Pl} (h : Rg rs.length m T) (hp : p.1 ≤ rs.length) (hp2 : p.2 ≤ m) : Rg rs.length m (stepF t rs l m T p) := fold_rg _ h fun o ho => fol_in he hp2 hp ho
theorem sz_ok {n m : Nat} (hn : n ≤ 400) (hm : m ≤ 12) : (n + 1) * (m + 1) ≤ 5213 := Nat.mul_le_mul (show n + 1 ≤ 401 by omega) (show m + 1 ≤ 13 by omega)
theorem fol_len (hlen : ∀ i, (row rs i).length ≤ 1000) {p : Pl} : (folF t rs l m p).length ≤ 1001 := by
  have := hlen p.1
  unfold folF lnsF
  rw [List.length_append]
  split <;> split <;> simp <;> omega
/-! ### page_potentials -/
theorem pp_2 (ht : t.length = rs.length) (he : EdOk rs) (hlen : ∀ i, (row rs i).length ≤ 1000) (hn : rs.length ≤ 400) (hm : m ≤ 12) {p : Pl} (hp : p.1 ≤ rs.length) (hp2 : p.2 ≤ m) {T : Tf} (hT : Rg rs.length m T) {A B C E G x8 x9 x10 : Option Sl} :
    ∃ y8 y9 y10, l_page_potentials_2 [A, B, C, E, G, some (.dat (pgD lines b t rs l m)), some (.own (tfD T)), some (.dat (plD p)), x8, x9, x10] =
    some (.nx [A, B, C, E, G, some (.dat (pgD lines b t rs l m)), some (.own (tfD (stepF t rs l m T p))), some (.dat (plD p)), y8, y9, y10]) := by
  have hf := fol_ok (lines := lines) (b := b) (l := l) (m := m) ht he hlen hp
  have m1 := pg_meth (lines := lines) (b := b) (t := t) (rs := rs) (l := l) (m := m) (x := "following") (by decide +kernel)
  have h1 : valZ (T.map fun x => keyP x.1) (T.map fun x => Z.D.int x.2) [.inl (p.1 : Int), .inl (p.2 : Int)] = (look T p).map Z.D.int := look_val (g := Z.D.int) T
  cases hv : look T p with
  | none =>
    rw [hv] at h1
    refine ⟨x8, x9, x10, ?_⟩
    unfold stepF
    rw [relax_none hv]
    unfold tfD
    generalize (T.map fun x => keyP x.1) = ks at *
    generalize (T.map fun x => Z.D.int x.2) = ds at *
    simp [-s_fldD, -s_methD, l_page_potentials_2, plD, h1]
  | some v =>
    rw [hv] at h1
    obtain ⟨env', k, ⟨y8, y9, y10, hE⟩, _⟩ := forS_os (b := tupB 2 (consB (nmB 8) (consB (nmB 9) nilB))) (f := l_page_potentials_1) opD (relax p) (fun T => Rg rs.length m T ∧ ∃ u, look T p = some u) (fun o => o.1.1 ≤ rs.length ∧ o.1.2 ≤ m)
      (fun T env => ∃ y8 y9 y10, env = [A, B, C, E, G, some (.dat (pgD lines b t rs l m)), some (.own (tfD T)), some (.dat (plD p)), y8, y9, y10])
      (by
        rintro o T env ho ⟨hR, u, hu⟩ ⟨y8, y9, y10, rfl⟩
        have := hR.len
        have := sz_ok hn hm
        obtain ⟨z10, k⟩ := pp_1 (A := A) (B := B) (C := C) (E := E) (G := G) (P := some (.dat (pgD lines b t rs l m))) (p := p) (o := o) (x10 := y10) hR.1 hu (by omega)
        exact ⟨[A, B, C, E, G, some (.dat (pgD lines b t rs l m)), some (.own (tfD T)), some (.dat (plD p)), some (.dat (plD o.1)), some (.dat (.int o.2)), y10], _, by simp [opD], k, ⟨_, _, _, rfl⟩, hR.relax ho, relax_src hu⟩)
      (folF t rs l m p) T _ (fun o ho => fol_in he hp2 hp ho) ⟨hT, v, hv⟩ ⟨x8, x9, x10, rfl⟩
    subst hE
    refine ⟨y8, y9, y10, ?_⟩
    show _ = some (Out.nx [A, B, C, E, G, some (.dat (pgD lines b t rs l m)), some (.own (tfD ((folF t rs l m p).foldl (relax p) T))), some (.dat (plD p)), y8, y9, y10])
    generalize tfD ((folF t rs l m p).foldl (relax p) T) = oc' at k ⊢
    unfold tfD at k ⊢
    generalize (T.map fun x => keyP x.1) = ks at *
    generalize (T.map fun x => Z.D.int x.2) = ds at *
    simp only [plD] at k hf
    simp [-s_fldD, -s_methD, l_page_potentials_2, plD, h1, m1, hf, k]
/-! ### the law -/
theorem ll_2 (ht : t.length = rs.length) (he : EdOk rs) (hlen : ∀ i, (row rs i).length ≤ 1000) (hn : rs.length ≤ 400) (hm : m ≤ 12) {p : Pl} (hp : p.1 ≤ rs.length) (hp2 : p.2 ≤ m) {T : Tf} (hT : Rg rs.length m T) {x5 x6 x7 : Option Sl} :
    ∃ y5 y6 y7, l__law_least_2 [some (.dat (.lst (rs.map rowD))), some (.dat (TNp t l m)), some (.own (tfD T)), some (.dat (.int (p.1 : Int))), some (.dat (.int (p.2 : Int))), x5, x6, x7] =
    some (.nx [some (.dat (.lst (rs.map rowD))), some (.dat (TNp t l m)), some (.own (tfD (stepF t rs l m T p))), some (.dat (.int (p.1 : Int))), some (.dat (.int (p.2 : Int))), y5, y6, y7]) := by
  have hf := steps_ok (l := l) ht he hlen hp hp2
  have h1 : valZ (T.map fun x => keyP x.1) (T.map fun x => Z.D.int x.2) [.inl (p.1 : Int), .inl (p.2 : Int)] = (look T p).map Z.D.int := look_val (g := Z.D.int) T
  cases hv : look T p with
  | none =>
    rw [hv] at h1
    refine ⟨x5, x6, x7, ?_⟩
    unfold stepF
    rw [relax_none hv]
    unfold tfD
    generalize (T.map fun x => keyP x.1) = ks at *
    generalize (T.map fun x => Z.D.int x.2) = ds at *
    simp [l__law_least_2, h1]
  | some v =>
    rw [hv] at h1
    obtain ⟨env', k, ⟨y5, y6, y7, hE⟩, _⟩ := forS_os (b := tupB 2 (consB (nmB 5) (consB (nmB 6) nilB))) (f := l__law_least_1) opD (relax p) (fun T => Rg rs.length m T ∧ ∃ u, look T p = some u) (fun o => o.1.1 ≤ rs.length ∧ o.1.2 ≤ m)
      (fun T env => ∃ y5 y6 y7, env = [some (.dat (.lst (rs.map rowD))), some (.dat (TNp t l m)), some (.own (tfD T)), some (.dat (.int (p.1 : Int))), some (.dat (.int (p.2 : Int))), y5, y6, y7])
      (by
        rintro o T env ho ⟨hR, u, hu⟩ ⟨y5, y6, y7, rfl⟩
        have := hR.len
        have := sz_ok hn hm
        obtain ⟨z7, k⟩ := ll_1 (A := some (.dat (.lst (rs.map rowD)))) (B := some (.dat (TNp t l m))) (p := p) (o := o) (x7 := y7) hu (by omega)
        exact ⟨[some (.dat (.lst (rs.map rowD))), some (.dat (TNp t l m)), some (.own (tfD T)), some (.dat (.int (p.1 : Int))), some (.dat (.int (p.2 : Int))), some (.dat (plD o.1)), some (.dat (.int o.2)), y7], _, by simp [opD], k, ⟨_, _, _, rfl⟩, hR.relax ho, relax_src hu⟩)
      (folF t rs l m p) T _ (fun o ho => fol_in he hp2 hp ho) ⟨hT, v, hv⟩ ⟨x5, x6, x7, rfl⟩
    subst hE
    refine ⟨y5, y6, y7, ?_⟩
    show _ = some (Out.nx [some (.dat (.lst (rs.map rowD))), some (.dat (TNp t l m)), some (.own (tfD ((folF t rs l m p).foldl (relax p) T))), some (.dat (.int (p.1 : Int))), some (.dat (.int (p.2 : Int))), y5, y6, y7])
    generalize tfD ((folF t rs l m p).foldl (relax p) T) = oc' at k ⊢
    unfold tfD at k ⊢
    generalize (T.map fun x => keyP x.1) = ks at *
    generalize (T.map fun x => Z.D.int x.2) = ds at *
    simp only [plD] at hf
    simp only [TNp] at k hf
    simp [l__law_least_2, TNp, h1, hf, k]
end
end K77

set_option Elab.async false
set_option linter.all false
set_option maxRecDepth 100000
set_option maxHeartbeats 1000000
namespace K77
open PySem PySem.Spec PyProof.Rows L2 Z
def toR (x : Pl × Int) : R3 := ((x.1.1 : Int), (x.1.2 : Int), x.2)
theorem rows_tf (T : Tf) : dictRows (T.map fun x => keyP x.1) (T.map fun x => Z.D.int x.2) = some (T.map toR) := by
  have := dictRows_map (T.map toR)
  rw [List.map_map, List.map_map] at this
  exact this
theorem keyP_nodup {T : Tf} (h : Kd T) : (T.map fun x => keyP x.1).Nodup := by
  have : (T.map fun x => keyP x.1) = (T.map (·.1)).map keyP := by rw [List.map_map]; rfl
  rw [this]
  exact List.pairwise_map.mpr (List.Pairwise.imp (fun {a b} hne e => hne (keyP_inj e)) h)
section
variable {lines : Z.D} {t : List (Option Int)} {rs : List (List Ed)} {l m : Nat} {b : Bool}
theorem rg0 : Rg rs.length m [((0, 0), 0)] := ⟨by unfold Kd; simp, fun x hx => by rw [List.mem_singleton.mp hx]; exact ⟨Nat.zero_le _, Nat.zero_le _⟩⟩
theorem fold_stepF (he : EdOk rs) : ∀ (ps : List Pl) {T : Tf}, Rg rs.length m T → (∀ p ∈ ps, p.1 ≤ rs.length ∧ p.2 ≤ m) → Rg rs.length m (ps.foldl (stepF t rs l m) T)
  | [], T, h, _ => h
  | p :: ps, T, h, hp => fold_stepF he ps (stepF_rg he h (hp p List.mem_cons_self).1 (hp p List.mem_cons_self).2) fun q hq => hp q (List.mem_cons_of_mem _ hq)
theorem fwd_rg (he : EdOk rs) : Rg rs.length m (fwdF t rs l m) := fold_stepF he _ rg0 fun p hp => plsF_mem.mp hp
theorem fold_flat {α β γ : Type} (f : α → List β) (g : γ → β → γ) : ∀ (xs : List α) (b : γ), (xs.flatMap f).foldl g b = xs.foldl (fun b x => (f x).foldl g b) b
  | [], b => rfl
  | x :: xs, b => by rw [List.flatMap_cons, List.foldl_append, List.foldl_cons]; exact fold_flat f g xs _
theorem stepF_end {T : Tf} {p : Pl} (h : p.1 = rs.length) : stepF t rs l m T p = T := by
  unfold stepF
  rw [fol_end h]; rfl
theorem fwd_eq : fwdF t rs l m = (List.range rs.length).foldl (fun T a => (plRow m a).foldl (stepF t rs l m) T) [((0, 0), 0)] := by
  unfold fwdF plsF
  rw [fold_flat, List.range_succ, List.foldl_append, List.foldl_cons, List.foldl_nil]
  have : ∀ (ps : List Pl) (T : Tf), (∀ p ∈ ps, p.1 = rs.length) → ps.foldl (stepF t rs l m) T = T := by
    intro ps
    induction ps with
    | nil => intro T _; rfl
    | cons p ps ih =>
      intro T h
      rw [List.foldl_cons, stepF_end (h p List.mem_cons_self)]
      exact ih T fun q hq => h q (List.mem_cons_of_mem _ hq)
  refine this _ _ fun p hp => ?_
  unfold plRow at hp
  obtain ⟨j, _, rfl⟩ := List.mem_map.mp hp
  rfl
/-! ### the law's table -/
theorem ll_3 (ht : t.length = rs.length) (he : EdOk rs) (hlen : ∀ i, (row rs i).length ≤ 1000) (hn : rs.length ≤ 400) (hm : m ≤ 12) {a : Nat} (ha : a ≤ rs.length) {T : Tf} (hT : Rg rs.length m T) {x4 x5 x6 x7 : Option Sl} :
    ∃ y4 y5 y6 y7, l__law_least_3 [some (.dat (.lst (rs.map rowD))), some (.dat (TNp t l m)), some (.own (tfD T)), some (.dat (.int (a : Int))), x4, x5, x6, x7] =
    some (.nx [some (.dat (.lst (rs.map rowD))), some (.dat (TNp t l m)), some (.own (tfD ((plRow m a).foldl (stepF t rs l m) T))), some (.dat (.int (a : Int))), y4, y5, y6, y7]) := by
  obtain ⟨env', k, ⟨y4, y5, y6, y7, hE⟩, _⟩ := forS_os (b := nmB 4) (f := l__law_least_2) (fun p : Pl => nD p.2) (stepF t rs l m) (fun T => Rg rs.length m T) (fun p => p.1 = a ∧ p.2 ≤ m)
    (fun T env => ∃ y4 y5 y6 y7, env = [some (.dat (.lst (rs.map rowD))), some (.dat (TNp t l m)), some (.own (tfD T)), some (.dat (.int (a : Int))), y4, y5, y6, y7])
    (by
      rintro p T env ⟨hp1, hp2⟩ hR ⟨y4, y5, y6, y7, rfl⟩
      obtain ⟨z5, z6, z7, k⟩ := ll_2 (l := l) ht he hlen hn hm (p := p) (by omega) hp2 hR (x5 := y5) (x6 := y6) (x7 := y7)
      rw [hp1] at k
      exact ⟨[some (.dat (.lst (rs.map rowD))), some (.dat (TNp t l m)), some (.own (tfD T)), some (.dat (.int (a : Int))), some (.dat (nD p.2)), y5, y6, y7], _, by simp, k, ⟨_, _, _, _, rfl⟩, stepF_rg he hR (by omega) hp2⟩)
    (plRow m a) T _ (fun p hp => by
      unfold plRow at hp
      obtain ⟨j, _, rfl⟩ := List.mem_map.mp hp
      exact ⟨rfl, by show m - j ≤ m; omega⟩) hT ⟨x4, x5, x6, x7, rfl⟩
  subst hE
  refine ⟨y4, y5, y6, y7, ?_⟩
  have g1 : (m : Int).natAbs < 2305843009213693952 := by omega
  have g3 : ((m : Int) - -1).toNat = m + 1 := by omega
  have g4 : m + 1 ≤ 16777216 := by omega
  have e : (plRow m a).map (fun p : Pl => nD p.2) = (List.range (m + 1)).map fun j => nD (m - j) := by
    unfold plRow
    rw [List.map_map]
    exact List.map_congr_left fun j _ => rfl
  rw [e] at k
  generalize tfD ((plRow m a).foldl (stepF t rs l m) T) = oc' at k ⊢
  generalize tfD T = oc at k ⊢
  generalize hq : (List.range (m + 1)).map (fun j => nD (m - j)) = ds at k
  simp only [TNp] at k
  have g5 : m < 2305843009213693952 := by omega
  simp [l__law_least_3, TNp, g1, g3, g4, g5, rngC_down, hq, k]
theorem least_ok (ht : t.length = rs.length) (he : EdOk rs) (hlen : ∀ i, (row rs i).length ≤ 1000) (hn : rs.length ≤ 400) (hm : m ≤ 12) :
    m__law_least [.lst (rs.map rowD), TNp t l m] = some (.own (tfD (fwdF t rs l m))) := by
  obtain ⟨env', k, ⟨y3, y4, y5, y6, y7, hE⟩, _⟩ := forS_os (b := nmB 3) (f := l__law_least_3) (fun a : Nat => nD a) (fun T a => (plRow m a).foldl (stepF t rs l m) T) (fun T => Rg rs.length m T) (fun a => a ≤ rs.length)
    (fun T env => ∃ y3 y4 y5 y6 y7, env = [some (.dat (.lst (rs.map rowD))), some (.dat (TNp t l m)), some (.own (tfD T)), y3, y4, y5, y6, y7])
    (by
      rintro a T env ha hR ⟨y3, y4, y5, y6, y7, rfl⟩
      obtain ⟨z4, z5, z6, z7, k⟩ := ll_3 (l := l) ht he hlen hn hm ha hR (x4 := y4) (x5 := y5) (x6 := y6) (x7 := y7)
      refine ⟨[some (.dat (.lst (rs.map rowD))), some (.dat (TNp t l m)), some (.own (tfD T)), some (.dat (nD a)), y4, y5, y6, y7], _, by simp, k, ⟨_, _, _, _, _, rfl⟩, fold_stepF he _ hR fun p hp => ?_⟩
      unfold plRow at hp
      obtain ⟨j, _, rfl⟩ := List.mem_map.mp hp
      exact ⟨ha, by show m - j ≤ m; omega⟩)
    (List.range rs.length) [((0, 0), 0)] [some (.dat (.lst (rs.map rowD))), some (.dat (TNp t l m)), some (.own (tfD [((0, 0), 0)])), none, none, none, none, none] (fun a ha => Nat.le_of_lt (List.mem_range.mp ha)) rg0 ⟨none, none, none, none, none, rfl⟩
  subst hE
  rw [← fwd_eq] at k
  have g1 : rs.length < 2305843009213693952 := by omega
  have g2 : rs.length ≤ 16777215 := by omega
  have h0 : tfD [((0, 0), 0)] = .dct [[.inl 0, .inl 0]] [.int 0] := rfl
  rw [h0] at k
  have hr : (List.range rs.length).map nD = rngD 0 rs.length := by rw [rng0]
  rw [hr] at k
  generalize tfD (fwdF t rs l m) = oc' at k ⊢
  simp [m__law_least, b__law_least, g1, g2, rngD_length, k]
/-! ### page_potentials -/
theorem pobj {ps : List Pc} {r : Fr} {b2 : Bool} (hrs : rs = rowsF (sums (com r.2 ps) (0, 0, 0) ps) (sc (com r.2 ps) r) ps.length) :
    Z.D.obj "Pages" ["lines", "many", "turns", "least", "most", "_from"] [linesD ps.length (sc (com r.2 ps) r) (sums (com r.2 ps) (0, 0, 0) ps), .int ps.length, tnD b2 t, .int l, .int m, .lst (rs.map rowD)] = pgD (linesD ps.length (sc (com r.2 ps) r) (sums (com r.2 ps) (0, 0, 0) ps)) b2 t rs l m := by
  have hn : rs.length = ps.length := by rw [hrs]; unfold rowsF; simp
  unfold pgD pgsD
  rw [hn]
def rowsT (T : Tf) : List R3 := (T.map toR).mergeSort le3
theorem pot_ok {b2 : Bool} {ps : List Pc} {r : Fr} (hp : ∀ p ∈ ps, PcOk p) (hr : FrOk r) (hr0 : 1 ≤ r.1) (hl0 : 1 ≤ ps.length) (hl : ps.length ≤ 400) (ht : t.length = ps.length) (htn : TnOk t) (h1 : 1 ≤ l) (h2 : l ≤ m) (h3 : m ≤ 12)
    (hrs : rs = rowsF (sums (com r.2 ps) (0, 0, 0) ps) (sc (com r.2 ps) r) ps.length) (ho : EdOk rs) (hlen : ∀ i, (row rs i).length ≤ 1000) :
    m_page_potentials [psD b ps, frD false r, tnD b2 t, .int (l : Int), .int (m : Int)] = some (.dat (.tup ((rowsT (fwdF t rs l m)).map Z.rowD))) := by
  have hn : rs.length = ps.length := by rw [hrs]; unfold rowsF; simp
  have hP := pages_ok (b := b) (b2 := b2) (l := (l : Int)) (m := (m : Int)) hp hr hr0 hl0 hl ht htn (by omega) (by omega) (by omega)
  rw [← hrs] at hP
  have hobj := pobj (t := t) (l := l) (m := m) (b2 := b2) hrs
  have m1 := pg_meth (lines := linesD ps.length (sc (com r.2 ps) r) (sums (com r.2 ps) (0, 0, 0) ps)) (b := b2) (t := t) (rs := rs) (l := l) (m := m) (x := "places") (by decide +kernel)
  have hpl := places_ok (lines := linesD ps.length (sc (com r.2 ps) r) (sums (com r.2 ps) (0, 0, 0) ps)) (b := b2) (t := t) (rs := rs) (l := l) (m := m) (by omega) h3
  obtain ⟨env', k, ⟨y7, y8, y9, y10, hE⟩, hR⟩ := forS_os (b := nmB 7) (f := l_page_potentials_2) plD (stepF t rs l m) (fun T => Rg rs.length m T) (fun p => p.1 ≤ rs.length ∧ p.2 ≤ m)
    (fun T env => ∃ y7 y8 y9 y10, env = [some (.dat (psD b ps)), some (.dat (frD false r)), some (.dat (tnD b2 t)), some (.dat (.int (l : Int))), some (.dat (.int (m : Int))), some (.dat (pgD (linesD ps.length (sc (com r.2 ps) r) (sums (com r.2 ps) (0, 0, 0) ps)) b2 t rs l m)), some (.own (tfD T)), y7, y8, y9, y10])
    (by
      rintro p T env ⟨hp1, hp2⟩ hR ⟨y7, y8, y9, y10, rfl⟩
      obtain ⟨z8, z9, z10, k⟩ := pp_2 (lines := linesD ps.length (sc (com r.2 ps) r) (sums (com r.2 ps) (0, 0, 0) ps)) (b := b2) (l := l) (by rw [ht, hn]) ho hlen (by omega) h3 hp1 hp2 hR (A := some (.dat (psD b ps))) (B := some (.dat (frD false r))) (C := some (.dat (tnD b2 t))) (E := some (.dat (.int (l : Int)))) (G := some (.dat (.int (m : Int)))) (x8 := y8) (x9 := y9) (x10 := y10)
      exact ⟨_, _, rfl, k, ⟨_, _, _, _, rfl⟩, stepF_rg ho hR hp1 hp2⟩)
    (plsF rs.length m) [((0, 0), 0)] _ (fun p hp => plsF_mem.mp hp) rg0 ⟨none, none, none, none, rfl⟩
  subst hE
  have hrow := rows_tf (fwdF t rs l m)
  have hT : Rg rs.length m (fwdF t rs l m) := hR
  have hlenT := hT.len
  have := sz_ok (n := rs.length) (m := m) (by omega) h3
  have g : (fwdF t rs l m).length ≤ 16777216 := by omega
  have h0 : tfD [((0, 0), 0)] = .dct [[.inl 0, .inl 0]] [.int 0] := rfl
  change forS (nmB 7) l_page_potentials_2 ((plsF rs.length m).map plD) _ = some (Out.nx [_, _, _, _, _, _, some (.own (tfD (fwdF t rs l m))), _, _, _, _]) at k
  rw [h0] at k
  unfold tfD at k
  unfold rowsT
  generalize fwdF t rs l m = T at *
  generalize ((T.map fun x => keyP x.1) : List (List Key)) = ks at *
  generalize ((T.map fun x => Z.D.int x.2) : List Z.D) = ds at *
  rw [← hobj] at m1 hpl k
  generalize psD b ps = A at *
  generalize frD false r = B at *
  generalize tnD b2 t = C at *
  generalize (plsF rs.length m).map plD = PL at *
  simp [-s_methD, m_page_potentials, b_page_potentials, hP, m1, hpl, k, hrow, g]
end
end K77

set_option Elab.async false
set_option linter.all false
set_option maxRecDepth 100000
set_option maxHeartbeats 1000000
namespace K77
open PySem PySem.Spec PyProof.Rows L2 Z
/-! ### rules -/
/-- a loop that may be left with False -/
theorem forS_chk {α : Type} {b : Fb} {f : Fs} (g : α → Z.D) (c : α → Bool) (E : En → Prop) : ∀ (os : List α) (env : En),
    (∀ o ∈ os, ∀ env, E env → ∃ e1, b (g o) env = some e1 ∧ (c o = true → ∃ e2, f e1 = some (.nx e2) ∧ E e2) ∧ (c o = false → ∃ e2, f e1 = some (.rt (.dat (.bl false)) e2))) → E env →
    ∀ rest : List Z.D, (os.all c = true → ∃ env', forS b f (os.map g ++ rest) env = forS b f rest env' ∧ E env') ∧ (os.all c = false → ∃ e2, forS b f (os.map g ++ rest) env = some (.rt (.dat (.bl false)) e2))
  | [], env, _, hE, rest => ⟨fun _ => ⟨env, rfl, hE⟩, fun h => (by cases h)⟩
  | o :: os, env, h, hE, rest => by
    obtain ⟨e1, h1, h2, h3⟩ := h o List.mem_cons_self env hE
    rw [List.map_cons, List.cons_append]
    cases hc : c o with
    | true =>
      obtain ⟨e2, h4, h5⟩ := h2 hc
      have ih := forS_chk g c E os e2 (fun x hx => h x (List.mem_cons_of_mem _ hx)) h5 rest
      have e : ∀ r, forS b f (g o :: r) env = forS b f r e2 := fun r => by
        show (b (g o) env).bind _ = _
        rw [h1, Option.bind_some, h4, Option.bind_some]
      rw [e, List.all_cons, hc, Bool.true_and]
      exact ih
    | false =>
      obtain ⟨e2, h4⟩ := h3 hc
      have e : ∀ r, forS b f (g o :: r) env = some (.rt (.dat (.bl false)) e2) := fun r => by
        show (b (g o) env).bind _ = _
        rw [h1, Option.bind_some, h4, Option.bind_some]
      rw [e, List.all_cons, hc, Bool.false_and]
      exact ⟨fun h => (by cases h), fun _ => ⟨e2, rfl⟩⟩
/-- a comprehension with a test -/
theorem lcGo_filt {α : Type} {gb : Fb} {t : Ft} {f : Fe} {vs : List Nat} {env1 : En} (g : α → Z.D) (c : α → Bool) (r : α → Z.D) : ∀ (os : List α) (acc : List Z.D) (env : En), wipeE env vs = wipeE env1 vs →
    (∀ o ∈ os, ∃ e1 rv, gb (g o) (wipeE env1 vs) = some e1 ∧ t e1 = some (c o, e1) ∧ f e1 = some (rv, e1) ∧ kp e1 (fz rv) = some (r o, e1) ∧ wipeE e1 vs = wipeE env1 vs) →
    lcGo gb t f vs (os.map g) acc env = some (acc ++ (os.filter c).map r, wipeE env1 vs)
  | [], acc, env, he, _ => by
    show some (acc, wipeE env vs) = _
    rw [he, List.filter_nil, List.map_nil, List.append_nil]
  | o :: os, acc, env, he, h => by
    obtain ⟨e1, rv, h1, h0, h2, h3, h4⟩ := h o (List.mem_cons_self ..)
    have hr := fun acc => lcGo_filt g c r os acc e1 h4 (fun e he => h e (List.mem_cons_of_mem _ he))
    rw [List.map_cons]
    unfold lcGo
    rw [he, h1, Option.bind_some, h0, Option.bind_some]
    cases hc : c o with
    | true =>
      dsimp only
      rw [if_pos rfl, h2, Option.bind_some, h3, Option.bind_some, hr, List.filter_cons, hc, if_pos rfl, List.map_cons, List.append_assoc]; rfl
    | false =>
      dsimp only
      rw [if_neg Bool.false_ne_true, hr, List.filter_cons, hc, if_neg Bool.false_ne_true]
theorem lcS_filt {α : Type} {fi : Fi} {gb : Fb} {t : Ft} {f : Fe} {vs : List Nat} {env env1 : En} (g : α → Z.D) (c : α → Bool) (r : α → Z.D) {os : List α} (h1 : fi env = some (os.map g, env1)) (hl : os.length ≤ 16777215) (hb : backE env1 (wipeE env1 vs) vs = env1)
    (h : ∀ o ∈ os, ∃ e1 rv, gb (g o) (wipeE env1 vs) = some e1 ∧ t e1 = some (c o, e1) ∧ f e1 = some (rv, e1) ∧ kp e1 (fz rv) = some (r o, e1) ∧ wipeE e1 vs = wipeE env1 vs) : lcS fi gb t f vs env = some (.own (.lst ((os.filter c).map r)), env1) := by
  rw [s_lcS, h1, Option.bind_some, if_pos (by rw [List.length_map]; exact hl), lcGo_filt g c r os [] env1 rfl h, Option.bind_some, List.nil_append, hb]
/-! ### sets of places -/
def insK (acc : List (List Int)) (k : List Int) : List (List Int) := if k ∈ acc then acc else k :: acc
def kI (p : Pl) : List Int := [(p.1 : Int), (p.2 : Int)]
theorem kI_inj {p q : Pl} (h : kI p = kI q) : p = q := by
  unfold kI at h
  injection h with h1 h2
  injection h2 with h2 _
  exact Prod.ext (by omega) (by omega)
theorem ins_len : ∀ (os : List Op) (acc : List (List Int)), (os.foldl (fun a o => insK a (kI o.1)) acc).length ≤ acc.length + os.length
  | [], acc => Nat.le_refl _
  | o :: os, acc => by
    have h := ins_len os (insK acc (kI o.1))
    have h2 : (insK acc (kI o.1)).length ≤ acc.length + 1 := by unfold insK; split <;> simp
    rw [List.foldl_cons, List.length_cons]; omega
theorem ins_mem : ∀ (os : List Op) (acc : List (List Int)) (k : List Int), (k ∈ acc ∨ ∃ o ∈ os, kI o.1 = k) → k ∈ os.foldl (fun a o => insK a (kI o.1)) acc
  | [], acc, k, h => h.elim id fun ⟨o, ho, _⟩ => nomatch ho
  | o :: os, acc, k, h => by
    rw [List.foldl_cons]
    refine ins_mem os _ k ?_
    rcases h with h | ⟨q, hq, e⟩
    · left; unfold insK; split
      · exact h
      · exact List.mem_cons_of_mem _ h
    · rcases List.mem_cons.mp hq with z | z
      · left; subst z; unfold insK; split
        · rename_i c; rw [← e]; exact c
        · rw [e]; exact List.mem_cons_self
      · exact .inr ⟨q, z, e⟩
theorem ins_new : ∀ (os : List Op) (acc : List (List Int)), Kd os → (∀ o ∈ os, kI o.1 ∉ acc) → (os.foldl (fun a o => insK a (kI o.1)) acc).length = acc.length + os.length
  | [], acc, _, _ => rfl
  | o :: os, acc, hk, h => by
    unfold Kd at hk
    rw [List.map_cons, List.nodup_cons] at hk
    have e : insK acc (kI o.1) = kI o.1 :: acc := by unfold insK; rw [if_neg (h o List.mem_cons_self)]
    rw [List.foldl_cons, e, ins_new os _ hk.2 fun q hq z => by
      rcases List.mem_cons.mp z with z | z
      · exact hk.1 (by rw [← kI_inj z]; exact List.mem_map.mpr ⟨q, hq, rfl⟩)
      · exact h q (List.mem_cons_of_mem _ hq) z, List.length_cons, List.length_cons]
    omega
theorem scGo_os {b : Fb} {f : Fe} {vs : List Nat} {env1 : En} : ∀ (os : List Op) (acc : List (List Int)) (env : En), wipeE env vs = wipeE env1 vs →
    (∀ o ∈ os, ∃ e1 rv, b (opD o) (wipeE env1 vs) = some e1 ∧ f e1 = some (rv, e1) ∧ kp e1 (fz rv) = some (plD o.1, e1) ∧ wipeE e1 vs = wipeE env1 vs) →
    scGo b f vs (os.map opD) acc env = some (os.foldl (fun a o => insK a (kI o.1)) acc, wipeE env1 vs)
  | [], acc, env, he, _ => by
    show some (acc, wipeE env vs) = _
    rw [he]; rfl
  | o :: os, acc, env, he, h => by
    obtain ⟨e1, rv, h1, h2, h3, h4⟩ := h o (List.mem_cons_self ..)
    rw [List.map_cons]
    unfold scGo
    rw [he, h1, Option.bind_some, h2, Option.bind_some, h3, Option.bind_some, show keyT (plD o.1) = some (kI o.1) from rfl, Option.bind_some]
    exact scGo_os os _ e1 h4 fun q hq => h q (List.mem_cons_of_mem _ hq)
/-! ### are_priced -/
section
variable {lines : Z.D} {t : List (Option Int)} {rs : List (List Ed)} {l m : Nat} {b : Bool}
theorem ap_good {o : Op} (h : o.1.1 ≤ rs.length ∧ o.1.2 ≤ m) {A x3 : Option Sl} : 
    (decide (0 ≤ o.2) = true → ∃ e2, l_are_priced_1 [some (.dat (pgD lines b t rs l m)), A, some (.dat (opD o)), x3] = some (.nx e2) ∧ ∃ y2 y3, e2 = [some (.dat (pgD lines b t rs l m)), A, y2, y3]) ∧
    (decide (0 ≤ o.2) = false → ∃ e2, l_are_priced_1 [some (.dat (pgD lines b t rs l m)), A, some (.dat (opD o)), x3] = some (.rt (.dat (.bl false)) e2)) := by
  have q0 := whole_int (i := o.2)
  have q1 := number_ok (i := (o.1.1 : Int)) (m := (rs.length : Int) + 1) (by omega) (by omega)
  have q2 := number_ok (i := (o.1.2 : Int)) (m := (m : Int) + 1) (by omega) (by omega)
  by_cases c : o.2 < 0
  · have c' : ¬ 0 ≤ o.2 := by omega
    refine ⟨fun h => absurd (of_decide_eq_true h) c', fun _ => ⟨[some (.dat (pgD lines b t rs l m)), A, some (.dat (opD o)), x3], ?_⟩⟩
    simp [-s_fldD, l_are_priced_1, opD, plD, kindD, okTy, isTy, q0, c]
  · have c' : 0 ≤ o.2 := by omega
    refine ⟨fun _ => ⟨[some (.dat (pgD lines b t rs l m)), A, some (.dat (opD o)), some (.dat (plD o.1))], ?_, _, _, rfl⟩, fun h => by rw [decide_eq_true c'] at h; cases h⟩
    simp [-s_fldD, l_are_priced_1, opD, plD, kindD, okTy, isTy, q0, q1, q2, c]
theorem kw_items {ds : List Z.D} : itemsOf (.ptup ds) = some ds := rfl
/-- told: a tuple of rows -/
def tlD (pl : Bool) (ds : List Z.D) : Z.D := if pl = true then .ptup ds else .tup ds
theorem pr_go {pl : Bool} {X : List Op} (h : ∀ o ∈ X, o.1.1 ≤ rs.length ∧ o.1.2 ≤ m) (hl : X.length ≤ 4900) :
    m_are_priced [pgD lines b t rs l m, tlD pl (X.map opD)] = some (.dat (.bl (X.all (fun o => decide (0 ≤ o.2)) && decide ((X.foldl (fun a o => insK a (kI o.1)) []).length = X.length)))) := by
  obtain ⟨k1, k2⟩ := forS_chk (b := nmB 2) (f := l_are_priced_1) opD (fun o => decide (0 ≤ o.2)) (fun env => ∃ y2 y3, env = [some (.dat (pgD lines b t rs l m)), some (.dat (tlD pl (X.map opD))), y2, y3]) X [some (.dat (pgD lines b t rs l m)), some (.dat (tlD pl (X.map opD))), none, none]
    (by
      rintro o ho env ⟨y2, y3, rfl⟩
      obtain ⟨g1, g2⟩ := ap_good (lines := lines) (b := b) (t := t) (l := l) (h o ho) (A := some (.dat (tlD pl (X.map opD)))) (x3 := y3)
      exact ⟨_, rfl, g1, g2⟩) ⟨none, none, rfl⟩ []
  rw [List.append_nil] at k1 k2
  have ik : isiG [tlD pl (X.map opD), .ty "tuple"] = some (.dat (.bl true)) := by cases pl <;> simp [tlD, kindD, okTy, isTy]
  have il : lenG [tlD pl (X.map opD)] = some (.dat (.int (X.length : Int))) := by cases pl <;> simp [tlD]
  have ii : itemsOf (tlD pl (X.map opD)) = some (X.map opD) := by cases pl <;> rfl
  have sc : ∀ y2 y3 : Option Sl, scGo (nmB 2) e_are_priced_1 [2] (X.map opD) [] [some (.dat (pgD lines b t rs l m)), some (.dat (tlD pl (X.map opD))), y2, y3] = some (X.foldl (fun a o => insK a (kI o.1)) [], wipeE [some (.dat (pgD lines b t rs l m)), some (.dat (tlD pl (X.map opD))), y2, y3] [2]) := fun y2 y3 =>
    scGo_os X [] _ rfl fun o ho => ⟨[some (.dat (pgD lines b t rs l m)), some (.dat (tlD pl (X.map opD))), some (.dat (opD o)), y3], .dat (plD o.1), by simp, by simp [e_are_priced_1, opD], rfl, by simp⟩
  have hlm : (X.map opD).length ≤ 4900 := by rw [List.length_map]; exact hl
  cases ha : X.all (fun o => decide (0 ≤ o.2)) with
  | true =>
    obtain ⟨env', k3, y2, y3, rfl⟩ := k1 ha
    have k4 : forS (nmB 2) l_are_priced_1 (X.map opD) [some (.dat (pgD lines b t rs l m)), some (.dat (tlD pl (X.map opD))), none, none] = some (.nx [some (.dat (pgD lines b t rs l m)), some (.dat (tlD pl (X.map opD))), y2, y3]) := k3
    have sc' := sc y2 y3
    have hd : ∀ n : Nat, ((n : Int) = (X.length : Int)) = (n = X.length) := fun n => propext ⟨fun z => by omega, fun z => by omega⟩
    generalize X.foldl (fun a o => insK a (kI o.1)) [] = KS at *
    generalize tlD pl (X.map opD) = TL at *
    generalize X.map opD = XD at *
    generalize pgD lines b t rs l m = PG at *
    simp [m_are_priced, b_are_priced, ik, il, ii, k4, hlm, sc', hd]
  | false =>
    obtain ⟨e2, k3⟩ := k2 ha
    generalize tlD pl (X.map opD) = TL at *
    generalize X.map opD = XD at *
    generalize pgD lines b t rs l m = PG at *
    simp [m_are_priced, b_are_priced, ik, il, ii, k3]
end
end K77

set_option Elab.async false
set_option linter.all false
set_option maxRecDepth 100000
set_option maxHeartbeats 1000000
namespace K77
open PySem PySem.Spec PyProof.Rows L2 Z
/-! ### shows_pages -/
theorem prs_os : ∀ X : List Op, prsOf (X.map opD) = some (X.map fun x => (keyP x.1, Z.D.int x.2))
  | [] => rfl
  | x :: X => by
    rw [List.map_cons]
    show (keyD (plD x.1)).bind _ = _
    rw [show keyD (plD x.1) = some (keyP x.1) from rfl, Option.bind_some, prs_os X]; rfl
theorem kd_mid {Y X : Tf} {x : Pl × Int} (h : Kd (Y ++ x :: X)) : look Y x.1 = none := by
  refine look_none_keys.mpr fun z => ?_
  unfold Kd at h
  rw [List.map_append, List.nodup_append] at h
  exact h.2.2 _ z x.1 (by rw [List.map_cons]; exact List.mem_cons_self) rfl
theorem fold_os : ∀ (X Y : Tf), Kd (Y ++ X) → (X.map fun x => (keyP x.1, Z.D.int x.2)).foldl (fun t p => putZ t.1 t.2 p.1 p.2) (Y.map fun x => keyP x.1, Y.map fun x => Z.D.int x.2) = ((Y ++ X).map fun x => keyP x.1, (Y ++ X).map fun x => Z.D.int x.2)
  | [], Y, _ => by rw [List.append_nil]; rfl
  | x :: X, Y, h => by
    rw [List.map_cons, List.foldl_cons]
    dsimp only
    have e : putT Y x.1 x.2 = Y ++ [x] := by unfold putT; rw [kd_mid h]; rfl
    rw [put_tf, e]
    have e2 : Y ++ x :: X = (Y ++ [x]) ++ X := by simp
    rw [e2] at h ⊢
    exact fold_os X (Y ++ [x]) h
theorem foldZ_os {X : Tf} (h : Kd X) : foldZ (X.map fun x => (keyP x.1, Z.D.int x.2)) = (X.map (fun x => keyP x.1), X.map fun x => Z.D.int x.2) := fold_os X [] h
section
variable (t : List (Option Int)) (rs : List (List Ed)) (l m : Nat)
def okStep (T : Tf) (s : Int) (o : Op) : Bool := match look T o.1 with
  | none => false
  | some v => decide (v ≤ s + o.2)
def chkF (T : Tf) (x : Op) : Bool := (folF t rs l m x.1).all (okStep T x.2)
def endsF (X : Tf) : List Int := (X.filter fun x => decide (x.1.1 = rs.length)).map (·.2)
def totF (X : Tf) : Option Int → Bool
  | none => (endsF rs X).isEmpty
  | some z => (endsF rs X).all fun v => decide (z ≤ v)
def shF (X : Tf) (tot : Option Int) : Bool := X.all (fun o => decide (0 ≤ o.2)) && (decide (look X (0, 0) = some 0) && (X.all (chkF t rs l m X) && totF rs X tot))
end
section
variable {lines : Z.D} {t : List (Option Int)} {rs : List (List Ed)} {l m : Nat} {b : Bool}
theorem sh_1 {A B C E G TL TT PG x13 : Option Sl} {T : Tf} {p : Pl} {s : Int} {o : Op} :
    (okStep T s o = true → ∃ e2, l_shows_pages_1 [A, B, C, E, G, TL, TT, PG, some (.own (tfD T)), some (.dat (plD p)), some (.dat (.int s)), some (.dat (plD o.1)), some (.dat (.int o.2)), x13] = some (.nx e2) ∧ ∃ y11 y12, e2 = [A, B, C, E, G, TL, TT, PG, some (.own (tfD T)), some (.dat (plD p)), some (.dat (.int s)), y11, y12, x13]) ∧
    (okStep T s o = false → ∃ e2, l_shows_pages_1 [A, B, C, E, G, TL, TT, PG, some (.own (tfD T)), some (.dat (plD p)), some (.dat (.int s)), some (.dat (plD o.1)), some (.dat (.int o.2)), x13] = some (.rt (.dat (.bl false)) e2)) := by
  have h2 : valZ (T.map fun x => keyP x.1) (T.map fun x => Z.D.int x.2) [.inl (o.1.1 : Int), .inl (o.1.2 : Int)] = (look T o.1).map Z.D.int := look_val (g := Z.D.int) T
  unfold okStep tfD
  generalize (T.map fun x => keyP x.1) = ks at *
  generalize (T.map fun x => Z.D.int x.2) = ds at *
  cases hl : look T o.1 with
  | none =>
    rw [hl] at h2
    refine ⟨fun h => (by cases h), fun _ => ⟨[A, B, C, E, G, TL, TT, PG, some (.own (.dct ks ds)), some (.dat (plD p)), some (.dat (.int s)), some (.dat (plD o.1)), some (.dat (.int o.2)), x13], ?_⟩⟩
    simp [l_shows_pages_1, plD, h2]
  | some v =>
    rw [hl] at h2
    by_cases c : v ≤ s + o.2
    · have c' : ¬ s + o.2 < v := by omega
      refine ⟨fun _ => ⟨[A, B, C, E, G, TL, TT, PG, some (.own (.dct ks ds)), some (.dat (plD p)), some (.dat (.int s)), some (.dat (plD o.1)), some (.dat (.int o.2)), x13], ?_, _, _, rfl⟩, fun h => by simp [c] at h⟩
      simp [l_shows_pages_1, plD, h2, c']
    · have c' : s + o.2 < v := by omega
      refine ⟨fun h => by simp [c] at h, fun _ => ⟨[A, B, C, E, G, TL, TT, PG, some (.own (.dct ks ds)), some (.dat (plD p)), some (.dat (.int s)), some (.dat (plD o.1)), some (.dat (.int o.2)), x13], ?_⟩⟩
      simp [l_shows_pages_1, plD, h2, c']
theorem sh_2 (ht : t.length = rs.length) (he : EdOk rs) (hlen : ∀ i, (row rs i).length ≤ 1000) {A B C E G TL TT x11 x12 x13 : Option Sl} {T : Tf} {x : Op} (hx : x.1.1 ≤ rs.length ∧ x.1.2 ≤ m) :
    (chkF t rs l m T x = true → ∃ e2, l_shows_pages_2 [A, B, C, E, G, TL, TT, some (.dat (pgD lines b t rs l m)), some (.own (tfD T)), some (.dat (plD x.1)), some (.dat (.int x.2)), x11, x12, x13] = some (.nx e2) ∧ ∃ y9 y10 y11 y12, e2 = [A, B, C, E, G, TL, TT, some (.dat (pgD lines b t rs l m)), some (.own (tfD T)), some (.dat y9), some (.dat y10), y11, y12, x13]) ∧
    (chkF t rs l m T x = false → ∃ e2, l_shows_pages_2 [A, B, C, E, G, TL, TT, some (.dat (pgD lines b t rs l m)), some (.own (tfD T)), some (.dat (plD x.1)), some (.dat (.int x.2)), x11, x12, x13] = some (.rt (.dat (.bl false)) e2)) := by
  have hf := fol_ok (lines := lines) (b := b) (l := l) (m := m) ht he hlen hx.1
  have m1 := pg_meth (lines := lines) (b := b) (t := t) (rs := rs) (l := l) (m := m) (x := "following") (by decide +kernel)
  obtain ⟨k1, k2⟩ := forS_chk (b := tupB 2 (consB (nmB 11) (consB (nmB 12) nilB))) (f := l_shows_pages_1) opD (okStep T x.2) (fun env => ∃ y11 y12, env = [A, B, C, E, G, TL, TT, some (.dat (pgD lines b t rs l m)), some (.own (tfD T)), some (.dat (plD x.1)), some (.dat (.int x.2)), y11, y12, x13]) (folF t rs l m x.1)
    [A, B, C, E, G, TL, TT, some (.dat (pgD lines b t rs l m)), some (.own (tfD T)), some (.dat (plD x.1)), some (.dat (.int x.2)), x11, x12, x13]
    (by
      rintro o ho env ⟨y11, y12, rfl⟩
      obtain ⟨g1, g2⟩ := sh_1 (A := A) (B := B) (C := C) (E := E) (G := G) (TL := TL) (TT := TT) (PG := some (.dat (pgD lines b t rs l m))) (T := T) (p := x.1) (s := x.2) (o := o) (x13 := x13)
      exact ⟨[A, B, C, E, G, TL, TT, some (.dat (pgD lines b t rs l m)), some (.own (tfD T)), some (.dat (plD x.1)), some (.dat (.int x.2)), some (.dat (plD o.1)), some (.dat (.int o.2)), x13], by simp [opD], g1, g2⟩) ⟨x11, x12, rfl⟩ []
  rw [List.append_nil] at k1 k2
  unfold chkF
  generalize tfD T = oc at *
  simp only [plD] at hf
  constructor
  · intro h
    obtain ⟨env', k3, y11, y12, rfl⟩ := k1 h
    have k4 : forS (tupB 2 (consB (nmB 11) (consB (nmB 12) nilB))) l_shows_pages_1 ((folF t rs l m x.1).map opD) [A, B, C, E, G, TL, TT, some (.dat (pgD lines b t rs l m)), some (.own oc), some (.dat (plD x.1)), some (.dat (.int x.2)), x11, x12, x13] = some (.nx [A, B, C, E, G, TL, TT, some (.dat (pgD lines b t rs l m)), some (.own oc), some (.dat (plD x.1)), some (.dat (.int x.2)), y11, y12, x13]) := k3
    simp only [plD] at k4
    refine ⟨[A, B, C, E, G, TL, TT, some (.dat (pgD lines b t rs l m)), some (.own oc), some (.dat (plD x.1)), some (.dat (.int x.2)), y11, y12, x13], ?_, _, _, _, _, rfl⟩
    simp [-s_fldD, -s_methD, l_shows_pages_2, plD, m1, hf, k4]
  · intro h
    obtain ⟨e2, k3⟩ := k2 h
    simp only [plD] at k3
    refine ⟨e2, ?_⟩
    simp [-s_fldD, -s_methD, l_shows_pages_2, plD, m1, hf, k3]
end
end K77

set_option Elab.async false
set_option linter.all false
set_option maxRecDepth 100000
set_option maxHeartbeats 2000000
namespace K77
open PySem PySem.Spec PyProof.Rows L2 Z
def totD : Option Int → Z.D
  | none => .non
  | some z => .int z
theorem bls_all (bs : List Bool) : blsOf (bs.map Z.D.bl) = some bs := by
  induction bs with
  | nil => rfl
  | cons b bs ih => rw [List.map_cons]; unfold blsOf; rw [ih]; rfl
section
variable {t : List (Option Int)} {rs : List (List Ed)} {l m : Nat}
/-- the dict that is made of told -/
theorem dict_ok {X : Tf} (hk : Kd X) (hl : X.length ≤ 4900) : dictTG [.ptup (X.map opD)] = some (.own (tfD X)) := by
  rw [s_dictT, if_pos (by rw [List.length_map]; omega), prs_os X, Option.bind_some, foldZ_os hk]
  rfl
theorem sh_loop {lines : Z.D} {b : Bool} (ht : t.length = rs.length) (he : EdOk rs) (hlen : ∀ i, (row rs i).length ≤ 1000) {A B C E G TL TT : Option Sl} {X T : Tf} (hX : ∀ o ∈ X, o.1.1 ≤ rs.length ∧ o.1.2 ≤ m) :
    (X.all (chkF t rs l m T) = true → ∃ y9 y10 y11 y12, forS (tupB 2 (consB (nmB 9) (consB (nmB 10) nilB))) l_shows_pages_2 (X.map opD) [A, B, C, E, G, TL, TT, some (.dat (pgD lines b t rs l m)), some (.own (tfD T)), none, none, none, none, none] = some (.nx [A, B, C, E, G, TL, TT, some (.dat (pgD lines b t rs l m)), some (.own (tfD T)), y9, y10, y11, y12, none]) ∧ Scr y9 ∧ Scr y10) ∧
    (X.all (chkF t rs l m T) = false → ∃ e2, forS (tupB 2 (consB (nmB 9) (consB (nmB 10) nilB))) l_shows_pages_2 (X.map opD) [A, B, C, E, G, TL, TT, some (.dat (pgD lines b t rs l m)), some (.own (tfD T)), none, none, none, none, none] = some (.rt (.dat (.bl false)) e2)) := by
  obtain ⟨k1, k2⟩ := forS_chk (b := tupB 2 (consB (nmB 9) (consB (nmB 10) nilB))) (f := l_shows_pages_2) opD (chkF t rs l m T) (fun env => ∃ y9 y10 y11 y12, env = [A, B, C, E, G, TL, TT, some (.dat (pgD lines b t rs l m)), some (.own (tfD T)), y9, y10, y11, y12, none] ∧ Scr y9 ∧ Scr y10) X
    [A, B, C, E, G, TL, TT, some (.dat (pgD lines b t rs l m)), some (.own (tfD T)), none, none, none, none, none]
    (by
      rintro o ho env ⟨y9, y10, y11, y12, rfl, hs1, hs2⟩
      obtain ⟨g1, g2⟩ := sh_2 (lines := lines) (b := b) (t := t) (rs := rs) (l := l) (m := m) ht he hlen (A := A) (B := B) (C := C) (E := E) (G := G) (TL := TL) (TT := TT) (T := T) (x := o) (hX o ho) (x11 := y11) (x12 := y12) (x13 := none)
      refine ⟨[A, B, C, E, G, TL, TT, some (.dat (pgD lines b t rs l m)), some (.own (tfD T)), some (.dat (plD o.1)), some (.dat (.int o.2)), y11, y12, none], by simp [opD], fun h => ?_, g2⟩
      obtain ⟨e2, h1, z9, z10, z11, z12, h2⟩ := g1 h
      exact ⟨e2, h1, _, _, z11, z12, h2, Scr.dat, Scr.dat⟩) ⟨none, none, none, none, rfl, .inl rfl, .inl rfl⟩ []
  rw [List.append_nil] at k1 k2
  refine ⟨fun h => ?_, k2⟩
  obtain ⟨env', k3, y9, y10, y11, y12, rfl, h1, h2⟩ := k1 h
  exact ⟨y9, y10, y11, y12, k3, h1, h2⟩
/-- the ends -/
theorem sh_ends {lines : Z.D} {b pl : Bool} {A B C E G TT KN y9 y10 y11 y12 : Option Sl} {X : Tf} (hl : X.length ≤ 4900) (h1 : Scr y9) (h2 : Scr y10) :
    lcS (seqI (vS 5)) (tupB 2 (consB (nmB 9) (consB (nmB 10) nilB))) t_shows_pages_1 e_shows_pages_1 [9, 10] [A, B, C, E, G, some (.dat (tlD pl (X.map opD))), TT, some (.dat (pgD lines b t rs l m)), KN, y9, y10, y11, y12, none] =
      some (.own (.lst ((endsF rs X).map Z.D.int)), [A, B, C, E, G, some (.dat (tlD pl (X.map opD))), TT, some (.dat (pgD lines b t rs l m)), KN, y9, y10, y11, y12, none]) := by
  have ii : itemsOf (tlD pl (X.map opD)) = some (X.map opD) := by cases pl <;> rfl
  have k := lcS_filt (fi := seqI (vS 5)) (gb := tupB 2 (consB (nmB 9) (consB (nmB 10) nilB))) (t := t_shows_pages_1) (f := e_shows_pages_1) (vs := [9, 10]) (env := [A, B, C, E, G, some (.dat (tlD pl (X.map opD))), TT, some (.dat (pgD lines b t rs l m)), KN, y9, y10, y11, y12, none]) (env1 := [A, B, C, E, G, some (.dat (tlD pl (X.map opD))), TT, some (.dat (pgD lines b t rs l m)), KN, y9, y10, y11, y12, none])
    opD (fun x => decide (x.1.1 = rs.length)) (fun x => Z.D.int x.2) (os := X) (by simp [ii]) (by omega) (by rcases h1 with rfl | ⟨d, rfl⟩ <;> rcases h2 with rfl | ⟨d', rfl⟩ <;> simp) (fun o ho => by
      have c1 : ((o.1.1 : Int) = (rs.length : Int)) = (o.1.1 = rs.length) := propext ⟨fun z => by omega, fun z => by omega⟩
      refine ⟨[A, B, C, E, G, some (.dat (tlD pl (X.map opD))), TT, some (.dat (pgD lines b t rs l m)), KN, some (.dat (plD o.1)), some (.dat (.int o.2)), y11, y12, none], .slot 10, ?_, ?_, ?_, ?_, ?_⟩
      · simp [opD]
      · simp [-s_fldD, t_shows_pages_1, plD, c1]
      · simp [e_shows_pages_1]
      · simp
      · simp)
  have e : (X.filter fun x => decide (x.1.1 = rs.length)).map (fun x => Z.D.int x.2) = (endsF rs X).map Z.D.int := by unfold endsF; rw [List.map_map]; rfl
  rw [e] at k
  exact k
theorem sh_all {A B C E G TL PG KN y9 y10 y11 y12 : Option Sl} {vs : List Int} {z : Int} (hl : vs.length ≤ 4900) (h2 : Scr y10) :
    lcS (seqI (vS 13)) (nmB 10) yesT e_shows_pages_2 [10] [A, B, C, E, G, TL, some (.dat (.int z)), PG, KN, y9, y10, y11, y12, some (.own (.lst (vs.map Z.D.int)))] =
      some (.own (.lst ((vs.map fun v => decide (z ≤ v)).map Z.D.bl)), [A, B, C, E, G, TL, some (.dat (.int z)), PG, KN, y9, y10, y11, y12, some (.dat (.lst (vs.map Z.D.int)))]) := by
  have k := lcS_filt (fi := seqI (vS 13)) (gb := nmB 10) (t := yesT) (f := e_shows_pages_2) (vs := [10]) (env := [A, B, C, E, G, TL, some (.dat (.int z)), PG, KN, y9, y10, y11, y12, some (.own (.lst (vs.map Z.D.int)))]) (env1 := [A, B, C, E, G, TL, some (.dat (.int z)), PG, KN, y9, y10, y11, y12, some (.dat (.lst (vs.map Z.D.int)))])
    Z.D.int (fun _ => true) (fun v => Z.D.bl (decide (z ≤ v))) (os := vs) (by simp) (by omega) (by rcases h2 with rfl | ⟨d', rfl⟩ <;> simp) (fun o ho => by
      refine ⟨[A, B, C, E, G, TL, some (.dat (.int z)), PG, KN, y9, some (.dat (.int o)), y11, y12, some (.dat (.lst (vs.map Z.D.int)))], .dat (.bl (decide (z ≤ o))), ?_, ?_, ?_, ?_, ?_⟩
      · simp
      · simp
      · simp [e_shows_pages_2]
      · simp
      · simp)
  rw [List.filter_eq_self.mpr (fun _ _ => rfl)] at k
  rw [k, List.map_map]; rfl
end
end K77

set_option Elab.async false
set_option linter.all false
set_option maxRecDepth 100000
set_option maxHeartbeats 2000000
namespace K77
open PySem PySem.Spec PyProof.Rows L2 Z
section
variable {t : List (Option Int)} {rs : List (List Ed)} {l m : Nat} {b b2 : Bool} {ps : List Pc} {r : Fr}
/-- the instance of Pages that is made -/
theorem pages_mk (hp : ∀ p ∈ ps, PcOk p) (hr : FrOk r) (hr0 : 1 ≤ r.1) (hl0 : 1 ≤ ps.length) (hl : ps.length ≤ 400) (ht : t.length = ps.length) (htn : TnOk t) (h1 : 1 ≤ l) (h2 : l ≤ m) (h3 : m ≤ 12)
    (hrs : rs = rowsF (sums (com r.2 ps) (0, 0, 0) ps) (sc (com r.2 ps) r) ps.length) :
    (m_Pages [psD b ps, frD false r, tnD b2 t, .int (l : Int), .int (m : Int)]).map (fun q => Z.D.obj "Pages" q.1 q.2) = some (pgD (linesD ps.length (sc (com r.2 ps) r) (sums (com r.2 ps) (0, 0, 0) ps)) b2 t rs l m) := by
  have hP := pages_ok (b := b) (b2 := b2) (l := (l : Int)) (m := (m : Int)) hp hr hr0 hl0 hl ht htn (by omega) (by omega) (by omega)
  rw [← hrs] at hP
  rw [hP, ← pobj (t := t) (l := l) (m := m) (b2 := b2) hrs]
  rfl
/-- the start of shows_pages -/
theorem sh_un {A B C LE MO PG TL TT : Z.D} (hP : (m_Pages [A, B, C, LE, MO]).map (fun q => Z.D.obj "Pages" q.1 q.2) = some PG) (ha : m_are_priced [PG, TL] = some (.dat (.bl false))) : m_shows_pages [A, B, C, LE, MO, TL, TT] = some (.dat (.bl false)) := by
  obtain ⟨q, hq, rfl⟩ := Option.map_eq_some_iff.mp hP
  simp [m_shows_pages, b_shows_pages, hq, ha]
theorem sh_pri {A B C LE MO PG TT : Z.D} {X : Tf} (hP : (m_Pages [A, B, C, LE, MO]).map (fun q => Z.D.obj "Pages" q.1 q.2) = some PG) (ha : m_are_priced [PG, .ptup (X.map opD)] = some (.dat (.bl true))) (hk : Kd X) (hl : X.length ≤ 4900) :
    (look X (0, 0) ≠ some 0 → m_shows_pages [A, B, C, LE, MO, .ptup (X.map opD), TT] = some (.dat (.bl false))) ∧
    (look X (0, 0) = some 0 → m_shows_pages [A, B, C, LE, MO, .ptup (X.map opD), TT] = (((seqS (loopS (seqI (vS 5)) (tupB 2 (consB (nmB 9) (consB (nmB 10) nilB))) l_shows_pages_2)
    (seqS (asgS 13 (lcS (seqI (vS 5)) (tupB 2 (consB (nmB 9) (consB (nmB 10) nilB))) t_shows_pages_1 e_shows_pages_1 [9, 10]))
    (seqS (iffS (isS false (vS 6)) (retS (notS (vS 13))) doneS)
    (retS (andS (callP m_is_whole (consL (vS 6) nilL)) (cbS allG (consL (lcS (seqI (vS 13)) (nmB 10) yesT e_shows_pages_2 [10]) nilL))))))) [some (.dat A), some (.dat B), some (.dat C), some (.dat LE), some (.dat MO), some (.dat (.ptup (X.map opD))), some (.dat TT), some (.dat PG), some (.own (tfD X)), none, none, none, none, none]).bind fin)) := by
  obtain ⟨q, hq, rfl⟩ := Option.map_eq_some_iff.mp hP
  have hd := dict_ok hk hl
  have h1 : valZ (X.map fun x => keyP x.1) (X.map fun x => Z.D.int x.2) [.inl 0, .inl 0] = (look X (0, 0)).map Z.D.int := look_val (g := Z.D.int) (p := (0, 0)) X
  have pre : ∀ st : Fs, (seqS (asgS 7 (makS "Pages" m_Pages (consL (vS 0) (consL (vS 1) (consL (vS 2) (consL (vS 3) (consL (vS 4) nilL)))))))
    (seqS (iffS (notT (truS (callP m_are_priced (consL (vS 7) (consL (vS 5) nilL))))) (retS (cS (.bl false))) doneS)
    (seqS (asgS 8 (cbS dictTG (consL (vS 5) nilL))) st))) [some (.dat A), some (.dat B), some (.dat C), some (.dat LE), some (.dat MO), some (.dat (.ptup (X.map opD))), some (.dat TT), none, none, none, none, none, none, none] =
    st [some (.dat A), some (.dat B), some (.dat C), some (.dat LE), some (.dat MO), some (.dat (.ptup (X.map opD))), some (.dat TT), some (.dat (.obj "Pages" q.1 q.2)), some (.own (tfD X)), none, none, none, none, none] := fun st => by
    generalize tfD X = oc at *
    generalize X.map opD = XD at *
    simp [-s_dictT, hq, ha, hd]
  have st : ∀ st : Fs, look X (0, 0) = some 0 → (seqS (iffS (cmpT neG (get1S (vS 8) (tupS (consL (cS (.int 0)) (consL (cS (.int 0)) nilL)))) (cS (.int 0))) (retS (cS (.bl false))) doneS) st) [some (.dat A), some (.dat B), some (.dat C), some (.dat LE), some (.dat MO), some (.dat (.ptup (X.map opD))), some (.dat TT), some (.dat (.obj "Pages" q.1 q.2)), some (.own (tfD X)), none, none, none, none, none] =
    st [some (.dat A), some (.dat B), some (.dat C), some (.dat LE), some (.dat MO), some (.dat (.ptup (X.map opD))), some (.dat TT), some (.dat (.obj "Pages" q.1 q.2)), some (.own (tfD X)), none, none, none, none, none] := fun st h => by
    rw [h] at h1
    unfold tfD
    generalize (X.map fun x => keyP x.1) = ks at *
    generalize (X.map fun x => Z.D.int x.2) = ds at *
    simp [h1]
  refine ⟨fun h => ?_, fun h => ?_⟩
  · show (b_shows_pages _).bind fin = _
    unfold b_shows_pages
    show ((seqS _ _) [some (.dat A), some (.dat B), some (.dat C), some (.dat LE), some (.dat MO), some (.dat (.ptup (X.map opD))), some (.dat TT), none, none, none, none, none, none, none]).bind fin = _
    rw [pre]
    unfold tfD
    generalize (X.map fun x => keyP x.1) = ks at *
    generalize (X.map fun x => Z.D.int x.2) = ds at *
    cases hv : look X (0, 0) with
    | none => rw [hv] at h1; simp [h1]
    | some v =>
      rw [hv] at h1 h
      have c : ¬ v = 0 := fun z => h (by rw [z])
      simp [h1, c]
  · show (b_shows_pages _).bind fin = _
    unfold b_shows_pages
    show ((seqS _ _) [some (.dat A), some (.dat B), some (.dat C), some (.dat LE), some (.dat MO), some (.dat (.ptup (X.map opD))), some (.dat TT), none, none, none, none, none, none, none]).bind fin = _
    rw [pre, st _ h]
theorem ends_len {X : Tf} : (endsF rs X).length ≤ X.length := by unfold endsF; rw [List.length_map]; exact List.length_filter_le _ _
theorem dec_kd {X : Tf} (hk : Kd X) : decide ((X.foldl (fun a o => insK a (kI o.1)) []).length = X.length) = true := by
  rw [ins_new X [] hk (fun _ _ z => nomatch z)]; simp
theorem sh_ok {A B : Z.D} {lines : Z.D} {C LE MO : Z.D} (hP : (m_Pages [A, B, C, LE, MO]).map (fun q => Z.D.obj "Pages" q.1 q.2) = some (pgD lines b2 t rs l m)) (ht : t.length = rs.length) (he : EdOk rs) (hlen : ∀ i, (row rs i).length ≤ 1000) {X : Tf} (hX : ∀ o ∈ X, o.1.1 ≤ rs.length ∧ o.1.2 ≤ m) (hk : Kd X) (hl : X.length ≤ 4900) (tot : Option Int) :
    m_shows_pages [A, B, C, LE, MO, .ptup (X.map opD), totD tot] = some (.dat (.bl (shF t rs l m X tot))) := by
  have ha := pr_go (lines := lines) (t := t) (rs := rs) (l := l) (m := m) (b := b2) (pl := true) hX hl
  rw [dec_kd hk, Bool.and_true] at ha
  change m_are_priced [_, .ptup (X.map opD)] = _ at ha
  unfold shF
  cases h0 : X.all (fun o => decide (0 ≤ o.2)) with
  | false => rw [h0] at ha; rw [sh_un hP ha]; rfl
  | true =>
    rw [h0] at ha
    obtain ⟨p1, p2⟩ := sh_pri (TT := totD tot) hP ha hk hl
    by_cases c0 : look X (0, 0) = some 0
    · rw [p2 c0, decide_eq_true c0]
      obtain ⟨k1, k2⟩ := sh_loop (lines := lines) (b := b2) (l := l) ht he hlen (A := some (.dat A)) (B := some (.dat B)) (C := some (.dat C)) (E := some (.dat LE)) (G := some (.dat MO)) (TL := some (.dat (.ptup (X.map opD)))) (TT := some (.dat (totD tot))) (X := X) (T := X) hX
      have ii : itemsOf (.ptup (X.map opD)) = some (X.map opD) := rfl
      cases h3 : X.all (chkF t rs l m X) with
      | false =>
        obtain ⟨e2, k3⟩ := k2 h3
        generalize X.map opD = XD at *
        generalize pgD lines b2 t rs l m = PG at *
        generalize tfD X = oc at *
        simp [ii, k3]
      | true =>
        obtain ⟨y9, y10, y11, y12, k3, hs1, hs2⟩ := k1 h3
        have k4 := sh_ends (t := t) (rs := rs) (l := l) (m := m) (lines := lines) (b := b2) (pl := true) (A := some (.dat A)) (B := some (.dat B)) (C := some (.dat C)) (E := some (.dat LE)) (G := some (.dat MO)) (TT := some (.dat (totD tot))) (KN := some (.own (tfD X))) (y11 := y11) (y12 := y12) hl hs1 hs2
        change lcS _ _ _ _ _ [_, _, _, _, _, some (.dat (.ptup (X.map opD))), _, _, _, _, _, _, _, _] = some (_, [_, _, _, _, _, some (.dat (.ptup (X.map opD))), _, _, _, _, _, _, _, _]) at k4
        have hel := ends_len (rs := rs) (X := X)
        cases tot with
        | none =>
          show _ = some (Rt.dat (.bl (true && (true && (true && (endsF rs X).isEmpty)))))
          simp only [totD] at k3 k4 ⊢
          have e1 : truD (.lst ((endsF rs X).map Z.D.int)) = some (!(endsF rs X).isEmpty) := by cases endsF rs X <;> rfl
          generalize X.map opD = XD at *
          generalize pgD lines b2 t rs l m = PG at *
          generalize tfD X = oc at *
          generalize endsF rs X = es at *
          simp [-s_lcS, ii, k3, k4, e1]
        | some z =>
          have k5 := sh_all (A := some (.dat A)) (B := some (.dat B)) (C := some (.dat C)) (E := some (.dat LE)) (G := some (.dat MO)) (TL := some (.dat (.ptup (X.map opD)))) (PG := some (.dat (pgD lines b2 t rs l m))) (KN := some (.own (tfD X))) (y9 := y9) (y11 := y11) (y12 := y12) (z := z) (vs := endsF rs X) (by omega) hs2
          show _ = some (Rt.dat (.bl (true && (true && (true && (endsF rs X).all fun v => decide (z ≤ v))))))
          simp only [totD] at k3 k4 ⊢
          have e2 := bls_all ((endsF rs X).map fun v => decide (z ≤ v))
          have e3 : ((endsF rs X).map fun v => decide (z ≤ v)).all id = (endsF rs X).all fun v => decide (z ≤ v) := by rw [List.all_map]; rfl
          have hw := whole_int (i := z)
          generalize X.map opD = XD at *
          generalize pgD lines b2 t rs l m = PG at *
          generalize tfD X = oc at *
          generalize endsF rs X = es at *
          generalize (es.map fun v => decide (z ≤ v)) = BS at *
          simp [-s_lcS, -List.map_map, ii, k3, k4, k5, hw, e2, e3]
    · rw [p1 c0, decide_eq_false c0]; rfl
end
end K77

set_option Elab.async false
set_option linter.all false
set_option maxRecDepth 100000
set_option maxHeartbeats 2000000
namespace K77
open PySem PySem.Spec PyProof.Rows L2 Z
section
variable {t : List (Option Int)} {rs : List (List Ed)} {l m : Nat} {b b2 : Bool}
/-! ### a total that is none -/
theorem sh_bad {A B : Z.D} {lines : Z.D} {C LE MO TT : Z.D} (hP : (m_Pages [A, B, C, LE, MO]).map (fun q => Z.D.obj "Pages" q.1 q.2) = some (pgD lines b2 t rs l m)) (ht : t.length = rs.length) (he : EdOk rs) (hlen : ∀ i, (row rs i).length ≤ 1000) {X : Tf} (hX : ∀ o ∈ X, o.1.1 ≤ rs.length ∧ o.1.2 ≤ m) (hk : Kd X) (hl : X.length ≤ 4900)
    (hT1 : isN TT = false) (hT2 : m_is_whole [TT] = some (.dat (.bl false))) :
    m_shows_pages [A, B, C, LE, MO, .ptup (X.map opD), TT] = some (.dat (.bl false)) := by
  have ha := pr_go (lines := lines) (t := t) (rs := rs) (l := l) (m := m) (b := b2) (pl := true) hX hl
  rw [dec_kd hk, Bool.and_true] at ha
  change m_are_priced [_, .ptup (X.map opD)] = _ at ha
  cases h0 : X.all (fun o => decide (0 ≤ o.2)) with
  | false => rw [h0] at ha; exact sh_un hP ha
  | true =>
    rw [h0] at ha
    obtain ⟨p1, p2⟩ := sh_pri (TT := TT) hP ha hk hl
    by_cases c0 : look X (0, 0) = some 0
    · rw [p2 c0]
      obtain ⟨k1, k2⟩ := sh_loop (lines := lines) (b := b2) (l := l) ht he hlen (A := some (.dat A)) (B := some (.dat B)) (C := some (.dat C)) (E := some (.dat LE)) (G := some (.dat MO)) (TL := some (.dat (.ptup (X.map opD)))) (TT := some (.dat TT)) (X := X) (T := X) hX
      have ii : itemsOf (.ptup (X.map opD)) = some (X.map opD) := rfl
      cases h3 : X.all (chkF t rs l m X) with
      | false =>
        obtain ⟨e2, k3⟩ := k2 h3
        generalize X.map opD = XD at *
        generalize pgD lines b2 t rs l m = PG at *
        generalize tfD X = oc at *
        simp [ii, k3]
      | true =>
        obtain ⟨y9, y10, y11, y12, k3, hs1, hs2⟩ := k1 h3
        have k4 := sh_ends (t := t) (rs := rs) (l := l) (m := m) (lines := lines) (b := b2) (pl := true) (A := some (.dat A)) (B := some (.dat B)) (C := some (.dat C)) (E := some (.dat LE)) (G := some (.dat MO)) (TT := some (.dat TT)) (KN := some (.own (tfD X))) (y11 := y11) (y12 := y12) hl hs1 hs2
        change lcS _ _ _ _ _ [_, _, _, _, _, some (.dat (.ptup (X.map opD))), _, _, _, _, _, _, _, _] = some (_, [_, _, _, _, _, some (.dat (.ptup (X.map opD))), _, _, _, _, _, _, _, _]) at k4
        generalize X.map opD = XD at *
        generalize pgD lines b2 t rs l m = PG at *
        generalize tfD X = oc at *
        generalize endsF rs X = es at *
        simp [-s_lcS, ii, k3, k4, hT1, hT2]
    · exact p1 c0
/-! ### the law's word -/
theorem ls_1 {LN PG RW TT x7 x8 x9 : Option Sl} : ∀ (X Y : Tf) (x5 x6 : Option Sl), Kd (Y ++ X) → (Y ++ X).length ≤ 4900 → Scr x5 → Scr x6 →
    (X.all (fun o => decide (0 ≤ o.2)) = true → ∃ y5 y6, forS (tupB 2 (consB (nmB 5) (consB (nmB 6) nilB))) l__law_shows_1 (X.map opD) [LN, PG, RW, TT, some (.own (tfD Y)), x5, x6, x7, x8, x9] = some (.nx [LN, PG, RW, TT, some (.own (tfD (Y ++ X))), y5, y6, x7, x8, x9]) ∧ Scr y5 ∧ Scr y6) ∧
    (X.all (fun o => decide (0 ≤ o.2)) = false → ∃ e2, forS (tupB 2 (consB (nmB 5) (consB (nmB 6) nilB))) l__law_shows_1 (X.map opD) [LN, PG, RW, TT, some (.own (tfD Y)), x5, x6, x7, x8, x9] = some (.rt (.dat (.bl false)) e2))
  | [], Y, x5, x6, _, _, h5, h6 => ⟨fun _ => ⟨x5, x6, by rw [List.append_nil]; rfl, h5, h6⟩, fun h => (by cases h)⟩
  | x :: X, Y, x5, x6, hk, hl, h5, h6 => by
    have e2 : Y ++ x :: X = (Y ++ [x]) ++ X := by simp
    have e : putT Y x.1 x.2 = Y ++ [x] := by unfold putT; rw [kd_mid hk]; rfl
    have h3 : putZ (Y.map fun x => keyP x.1) (Y.map fun x => Z.D.int x.2) [.inl (x.1.1 : Int), .inl (x.1.2 : Int)] (.int x.2) = (((Y ++ [x]).map fun x => keyP x.1), (Y ++ [x]).map fun x => Z.D.int x.2) := by rw [← e]; exact put_tf
    have hl2 : (Y.map fun x => keyP x.1).length < 16777216 := by
      rw [List.length_map]
      rw [List.length_append] at hl; omega
    rw [e2] at hk hl ⊢
    obtain ⟨i1, i2⟩ := ls_1 (LN := LN) (PG := PG) (RW := RW) (TT := TT) (x7 := x7) (x8 := x8) (x9 := x9) X (Y ++ [x]) (some (.dat (plD x.1))) (some (.dat (.int x.2))) hk hl Scr.dat Scr.dat
    have pre : tupB 2 (consB (nmB 5) (consB (nmB 6) nilB)) (opD x) [LN, PG, RW, TT, some (.own (tfD Y)), x5, x6, x7, x8, x9] = some [LN, PG, RW, TT, some (.own (tfD Y)), some (.dat (plD x.1)), some (.dat (.int x.2)), x7, x8, x9] := by
      rcases h5 with rfl | ⟨d, rfl⟩ <;> rcases h6 with rfl | ⟨d', rfl⟩ <;> simp [opD]
    rw [List.map_cons, List.all_cons]
    by_cases c : 0 ≤ x.2
    · rw [decide_eq_true c, Bool.true_and]
      have c' : ¬ x.2 < 0 := by omega
      have stp : l__law_shows_1 [LN, PG, RW, TT, some (.own (tfD Y)), some (.dat (plD x.1)), some (.dat (.int x.2)), x7, x8, x9] = some (.nx [LN, PG, RW, TT, some (.own (tfD (Y ++ [x]))), some (.dat (plD x.1)), some (.dat (.int x.2)), x7, x8, x9]) := by
        unfold tfD
        generalize ((Y ++ [x]).map fun x => keyP x.1) = ks' at *
        generalize ((Y ++ [x]).map fun x => Z.D.int x.2) = ds' at *
        generalize (Y.map fun x => keyP x.1) = ks at *
        generalize (Y.map fun x => Z.D.int x.2) = ds at *
        simp [l__law_shows_1, plD, h3, hl2, c']
      have st : forS (tupB 2 (consB (nmB 5) (consB (nmB 6) nilB))) l__law_shows_1 (opD x :: X.map opD) [LN, PG, RW, TT, some (.own (tfD Y)), x5, x6, x7, x8, x9] = forS (tupB 2 (consB (nmB 5) (consB (nmB 6) nilB))) l__law_shows_1 (X.map opD) [LN, PG, RW, TT, some (.own (tfD (Y ++ [x]))), some (.dat (plD x.1)), some (.dat (.int x.2)), x7, x8, x9] := by
        show (tupB 2 _ _ _).bind _ = _
        rw [pre, Option.bind_some, stp, Option.bind_some]
      rw [st]
      exact ⟨i1, i2⟩
    · rw [decide_eq_false c, Bool.false_and]
      have c' : x.2 < 0 := by omega
      refine ⟨fun h => (by cases h), fun _ => ⟨[LN, PG, RW, TT, some (.own (tfD (Y ++ [x]))), some (.dat (plD x.1)), some (.dat (.int x.2)), x7, x8, x9], ?_⟩⟩
      have stp : l__law_shows_1 [LN, PG, RW, TT, some (.own (tfD Y)), some (.dat (plD x.1)), some (.dat (.int x.2)), x7, x8, x9] = some (.rt (.dat (.bl false)) [LN, PG, RW, TT, some (.own (tfD (Y ++ [x]))), some (.dat (plD x.1)), some (.dat (.int x.2)), x7, x8, x9]) := by
        unfold tfD
        generalize ((Y ++ [x]).map fun x => keyP x.1) = ks' at *
        generalize ((Y ++ [x]).map fun x => Z.D.int x.2) = ds' at *
        generalize (Y.map fun x => keyP x.1) = ks at *
        generalize (Y.map fun x => Z.D.int x.2) = ds at *
        simp [l__law_shows_1, plD, h3, hl2, c']
      show (tupB 2 _ _ _).bind _ = _
      rw [pre, Option.bind_some, stp, Option.bind_some]
theorem ls_2 {A B C E x9 : Option Sl} {T : Tf} {p : Pl} {s : Int} {o : Op} :
    (okStep T s o = true → ∃ e2, l__law_shows_2 [A, B, C, E, some (.own (tfD T)), some (.dat (plD p)), some (.dat (.int s)), some (.dat (plD o.1)), some (.dat (.int o.2)), x9] = some (.nx e2) ∧ ∃ y7 y8, e2 = [A, B, C, E, some (.own (tfD T)), some (.dat (plD p)), some (.dat (.int s)), y7, y8, x9]) ∧
    (okStep T s o = false → ∃ e2, l__law_shows_2 [A, B, C, E, some (.own (tfD T)), some (.dat (plD p)), some (.dat (.int s)), some (.dat (plD o.1)), some (.dat (.int o.2)), x9] = some (.rt (.dat (.bl false)) e2)) := by
  have h2 : valZ (T.map fun x => keyP x.1) (T.map fun x => Z.D.int x.2) [.inl (o.1.1 : Int), .inl (o.1.2 : Int)] = (look T o.1).map Z.D.int := look_val (g := Z.D.int) T
  unfold okStep tfD
  generalize (T.map fun x => keyP x.1) = ks at *
  generalize (T.map fun x => Z.D.int x.2) = ds at *
  cases hl : look T o.1 with
  | none =>
    rw [hl] at h2
    refine ⟨fun h => (by cases h), fun _ => ⟨[A, B, C, E, some (.own (.dct ks ds)), some (.dat (plD p)), some (.dat (.int s)), some (.dat (plD o.1)), some (.dat (.int o.2)), x9], ?_⟩⟩
    simp [l__law_shows_2, plD, h2]
  | some v =>
    rw [hl] at h2
    by_cases c : v ≤ s + o.2
    · have c' : ¬ s + o.2 < v := by omega
      refine ⟨fun _ => ⟨[A, B, C, E, some (.own (.dct ks ds)), some (.dat (plD p)), some (.dat (.int s)), some (.dat (plD o.1)), some (.dat (.int o.2)), x9], ?_, _, _, rfl⟩, fun h => by simp [c] at h⟩
      simp [l__law_shows_2, plD, h2, c']
    · have c' : s + o.2 < v := by omega
      refine ⟨fun h => by simp [c] at h, fun _ => ⟨[A, B, C, E, some (.own (.dct ks ds)), some (.dat (plD p)), some (.dat (.int s)), some (.dat (plD o.1)), some (.dat (.int o.2)), x9], ?_⟩⟩
      simp [l__law_shows_2, plD, h2, c']
theorem ls_3 (ht : t.length = rs.length) (he : EdOk rs) (hlen : ∀ i, (row rs i).length ≤ 1000) {C E x7 x8 x9 : Option Sl} {T : Tf} {x : Op} (hx : x.1.1 ≤ rs.length ∧ x.1.2 ≤ m) :
    (chkF t rs l m T x = true → ∃ e2, l__law_shows_3 [some (.dat (.lst (rs.map rowD))), some (.dat (TNp t l m)), C, E, some (.own (tfD T)), some (.dat (plD x.1)), some (.dat (.int x.2)), x7, x8, x9] = some (.nx e2) ∧ ∃ y7 y8, e2 = [some (.dat (.lst (rs.map rowD))), some (.dat (TNp t l m)), C, E, some (.own (tfD T)), some (.dat (plD x.1)), some (.dat (.int x.2)), y7, y8, x9]) ∧
    (chkF t rs l m T x = false → ∃ e2, l__law_shows_3 [some (.dat (.lst (rs.map rowD))), some (.dat (TNp t l m)), C, E, some (.own (tfD T)), some (.dat (plD x.1)), some (.dat (.int x.2)), x7, x8, x9] = some (.rt (.dat (.bl false)) e2)) := by
  have hf := steps_ok (l := l) ht he hlen hx.1 hx.2
  obtain ⟨k1, k2⟩ := forS_chk (b := tupB 2 (consB (nmB 7) (consB (nmB 8) nilB))) (f := l__law_shows_2) opD (okStep T x.2) (fun env => ∃ y7 y8, env = [some (.dat (.lst (rs.map rowD))), some (.dat (TNp t l m)), C, E, some (.own (tfD T)), some (.dat (plD x.1)), some (.dat (.int x.2)), y7, y8, x9]) (folF t rs l m x.1)
    [some (.dat (.lst (rs.map rowD))), some (.dat (TNp t l m)), C, E, some (.own (tfD T)), some (.dat (plD x.1)), some (.dat (.int x.2)), x7, x8, x9]
    (by
      rintro o ho env ⟨y7, y8, rfl⟩
      obtain ⟨g1, g2⟩ := ls_2 (A := some (.dat (.lst (rs.map rowD)))) (B := some (.dat (TNp t l m))) (C := C) (E := E) (T := T) (p := x.1) (s := x.2) (o := o) (x9 := x9)
      exact ⟨[some (.dat (.lst (rs.map rowD))), some (.dat (TNp t l m)), C, E, some (.own (tfD T)), some (.dat (plD x.1)), some (.dat (.int x.2)), some (.dat (plD o.1)), some (.dat (.int o.2)), x9], by simp [opD], g1, g2⟩) ⟨x7, x8, rfl⟩ []
  rw [List.append_nil] at k1 k2
  unfold chkF
  generalize tfD T = oc at *
  simp only [plD, TNp] at hf
  constructor
  · intro h
    obtain ⟨env', k3, y7, y8, rfl⟩ := k1 h
    have k4 : forS (tupB 2 (consB (nmB 7) (consB (nmB 8) nilB))) l__law_shows_2 ((folF t rs l m x.1).map opD) [some (.dat (.lst (rs.map rowD))), some (.dat (TNp t l m)), C, E, some (.own oc), some (.dat (plD x.1)), some (.dat (.int x.2)), x7, x8, x9] = some (.nx [some (.dat (.lst (rs.map rowD))), some (.dat (TNp t l m)), C, E, some (.own oc), some (.dat (plD x.1)), some (.dat (.int x.2)), y7, y8, x9]) := k3
    simp only [plD, TNp] at k4
    refine ⟨[some (.dat (.lst (rs.map rowD))), some (.dat (TNp t l m)), C, E, some (.own oc), some (.dat (plD x.1)), some (.dat (.int x.2)), y7, y8, x9], ?_, _, _, rfl⟩
    simp [l__law_shows_3, plD, TNp, hf, k4]
  · intro h
    obtain ⟨e2, k3⟩ := k2 h
    simp only [plD, TNp] at k3
    refine ⟨e2, ?_⟩
    simp [l__law_shows_3, plD, TNp, hf, k3]
end
end K77

set_option Elab.async false
set_option linter.all false
set_option maxRecDepth 100000
set_option maxHeartbeats 2000000
namespace K77
open PySem PySem.Spec PyProof.Rows L2 Z
section
variable {t : List (Option Int)} {rs : List (List Ed)} {l m : Nat}
theorem ls_loop (ht : t.length = rs.length) (he : EdOk rs) (hlen : ∀ i, (row rs i).length ≤ 1000) {C E x5 x6 x7 x8 : Option Sl} {X T : Tf} (hX : ∀ o ∈ X, o.1.1 ≤ rs.length ∧ o.1.2 ≤ m) (h5 : Scr x5) (h6 : Scr x6) :
    (X.all (chkF t rs l m T) = true → ∃ y5 y6 y7 y8, forS (tupB 2 (consB (nmB 5) (consB (nmB 6) nilB))) l__law_shows_3 (X.map opD) [some (.dat (.lst (rs.map rowD))), some (.dat (TNp t l m)), C, E, some (.own (tfD T)), x5, x6, x7, x8, none] = some (.nx [some (.dat (.lst (rs.map rowD))), some (.dat (TNp t l m)), C, E, some (.own (tfD T)), y5, y6, y7, y8, none]) ∧ Scr y5 ∧ Scr y6) ∧
    (X.all (chkF t rs l m T) = false → ∃ e2, forS (tupB 2 (consB (nmB 5) (consB (nmB 6) nilB))) l__law_shows_3 (X.map opD) [some (.dat (.lst (rs.map rowD))), some (.dat (TNp t l m)), C, E, some (.own (tfD T)), x5, x6, x7, x8, none] = some (.rt (.dat (.bl false)) e2)) := by
  obtain ⟨k1, k2⟩ := forS_chk (b := tupB 2 (consB (nmB 5) (consB (nmB 6) nilB))) (f := l__law_shows_3) opD (chkF t rs l m T) (fun env => ∃ y5 y6 y7 y8, env = [some (.dat (.lst (rs.map rowD))), some (.dat (TNp t l m)), C, E, some (.own (tfD T)), y5, y6, y7, y8, none] ∧ Scr y5 ∧ Scr y6) X
    [some (.dat (.lst (rs.map rowD))), some (.dat (TNp t l m)), C, E, some (.own (tfD T)), x5, x6, x7, x8, none]
    (by
      rintro o ho env ⟨y5, y6, y7, y8, rfl, hs1, hs2⟩
      obtain ⟨g1, g2⟩ := ls_3 (t := t) (rs := rs) (l := l) (m := m) ht he hlen (C := C) (E := E) (T := T) (x := o) (hX o ho) (x7 := y7) (x8 := y8) (x9 := none)
      refine ⟨[some (.dat (.lst (rs.map rowD))), some (.dat (TNp t l m)), C, E, some (.own (tfD T)), some (.dat (plD o.1)), some (.dat (.int o.2)), y7, y8, none], by rcases hs1 with rfl | ⟨d, rfl⟩ <;> rcases hs2 with rfl | ⟨d', rfl⟩ <;> simp [opD], fun h => ?_, g2⟩
      obtain ⟨e2, h1, z7, z8, h2⟩ := g1 h
      exact ⟨e2, h1, _, _, z7, z8, h2, Scr.dat, Scr.dat⟩) ⟨x5, x6, x7, x8, rfl, h5, h6⟩ []
  rw [List.append_nil] at k1 k2
  refine ⟨fun h => ?_, k2⟩
  obtain ⟨env', k3, y5, y6, y7, y8, rfl, h1, h2⟩ := k1 h
  exact ⟨y5, y6, y7, y8, k3, h1, h2⟩
theorem ls_ends {B TT KN y5 y6 y7 y8 : Option Sl} {X : Tf} (hl : X.length ≤ 4900) (h1 : Scr y5) (h2 : Scr y6) :
    lcS (seqI (vS 2)) (tupB 2 (consB (nmB 5) (consB (nmB 6) nilB))) t__law_shows_1 e__law_shows_1 [5, 6] [some (.dat (.lst (rs.map rowD))), B, some (.dat (.lst (X.map opD))), TT, KN, y5, y6, y7, y8, none] =
      some (.own (.lst ((endsF rs X).map Z.D.int)), [some (.dat (.lst (rs.map rowD))), B, some (.dat (.lst (X.map opD))), TT, KN, y5, y6, y7, y8, none]) := by
  have k := lcS_filt (fi := seqI (vS 2)) (gb := tupB 2 (consB (nmB 5) (consB (nmB 6) nilB))) (t := t__law_shows_1) (f := e__law_shows_1) (vs := [5, 6]) (env := [some (.dat (.lst (rs.map rowD))), B, some (.dat (.lst (X.map opD))), TT, KN, y5, y6, y7, y8, none]) (env1 := [some (.dat (.lst (rs.map rowD))), B, some (.dat (.lst (X.map opD))), TT, KN, y5, y6, y7, y8, none])
    opD (fun x => decide (x.1.1 = rs.length)) (fun x => Z.D.int x.2) (os := X) (by simp) (by omega) (by rcases h1 with rfl | ⟨d, rfl⟩ <;> rcases h2 with rfl | ⟨d', rfl⟩ <;> simp) (fun o ho => by
      have c1 : ((o.1.1 : Int) = (rs.length : Int)) = (o.1.1 = rs.length) := propext ⟨fun z => by omega, fun z => by omega⟩
      refine ⟨[some (.dat (.lst (rs.map rowD))), B, some (.dat (.lst (X.map opD))), TT, KN, some (.dat (plD o.1)), some (.dat (.int o.2)), y7, y8, none], .slot 6, ?_, ?_, ?_, ?_, ?_⟩
      · simp [opD]
      · simp [t__law_shows_1, plD, c1]
      · simp [e__law_shows_1]
      · simp
      · simp)
  have e : (X.filter fun x => decide (x.1.1 = rs.length)).map (fun x => Z.D.int x.2) = (endsF rs X).map Z.D.int := by unfold endsF; rw [List.map_map]; rfl
  rw [e] at k
  exact k
theorem ls_all {A B C KN y5 y6 y7 y8 : Option Sl} {vs : List Int} {z : Int} (hl : vs.length ≤ 4900) (h2 : Scr y6) :
    lcS (seqI (vS 9)) (nmB 6) yesT e__law_shows_2 [6] [A, B, C, some (.dat (.int z)), KN, y5, y6, y7, y8, some (.own (.lst (vs.map Z.D.int)))] =
      some (.own (.lst ((vs.map fun v => decide (z ≤ v)).map Z.D.bl)), [A, B, C, some (.dat (.int z)), KN, y5, y6, y7, y8, some (.dat (.lst (vs.map Z.D.int)))]) := by
  have k := lcS_filt (fi := seqI (vS 9)) (gb := nmB 6) (t := yesT) (f := e__law_shows_2) (vs := [6]) (env := [A, B, C, some (.dat (.int z)), KN, y5, y6, y7, y8, some (.own (.lst (vs.map Z.D.int)))]) (env1 := [A, B, C, some (.dat (.int z)), KN, y5, y6, y7, y8, some (.dat (.lst (vs.map Z.D.int)))])
    Z.D.int (fun _ => true) (fun v => Z.D.bl (decide (z ≤ v))) (os := vs) (by simp) (by omega) (by rcases h2 with rfl | ⟨d', rfl⟩ <;> simp) (fun o ho => by
      refine ⟨[A, B, C, some (.dat (.int z)), KN, y5, some (.dat (.int o)), y7, y8, some (.dat (.lst (vs.map Z.D.int)))], .dat (.bl (decide (z ≤ o))), ?_, ?_, ?_, ?_, ?_⟩
      · simp
      · simp
      · simp [e__law_shows_2]
      · simp
      · simp)
  rw [List.filter_eq_self.mpr (fun _ _ => rfl)] at k
  rw [k, List.map_map]; rfl
theorem ls_ok (ht : t.length = rs.length) (he : EdOk rs) (hlen : ∀ i, (row rs i).length ≤ 1000) {X : Tf} (hX : ∀ o ∈ X, o.1.1 ≤ rs.length ∧ o.1.2 ≤ m) (hk : Kd X) (hl : X.length ≤ 4900) (tot : Option Int) :
    m__law_shows [.lst (rs.map rowD), TNp t l m, .lst (X.map opD), totD tot] = some (.dat (.bl (shF t rs l m X tot))) := by
  obtain ⟨j1, j2⟩ := ls_1 (LN := some (.dat (.lst (rs.map rowD)))) (PG := some (.dat (TNp t l m))) (RW := some (.dat (.lst (X.map opD)))) (TT := some (.dat (totD tot))) (x7 := none) (x8 := none) (x9 := none) X [] none none hk hl (.inl rfl) (.inl rfl)
  have h1 : valZ (X.map fun x => keyP x.1) (X.map fun x => Z.D.int x.2) [.inl 0, .inl 0] = (look X (0, 0)).map Z.D.int := look_val (g := Z.D.int) (p := (0, 0)) X
  have h00 : (tfD [] : OC) = .dct [] [] := rfl
  rw [h00] at j1 j2
  unfold shF
  cases h0 : X.all (fun o => decide (0 ≤ o.2)) with
  | false =>
    obtain ⟨e2, k⟩ := j2 h0
    rw [Bool.false_and]
    generalize X.map opD = XD at *
    generalize (rs.map rowD) = LN at *
    generalize TNp t l m = PG at *
    simp [m__law_shows, b__law_shows, k]
  | true =>
    obtain ⟨y5, y6, k, hs1, hs2⟩ := j1 h0
    rw [List.nil_append] at k
    rw [Bool.true_and]
    have pre : ∀ st : Fs, (seqS (asgS 4 newDS) (seqS (loopS (seqI (vS 2)) (tupB 2 (consB (nmB 5) (consB (nmB 6) nilB))) l__law_shows_1) st)) [some (.dat (.lst (rs.map rowD))), some (.dat (TNp t l m)), some (.dat (.lst (X.map opD))), some (.dat (totD tot)), none, none, none, none, none, none] =
        st [some (.dat (.lst (rs.map rowD))), some (.dat (TNp t l m)), some (.dat (.lst (X.map opD))), some (.dat (totD tot)), some (.own (tfD X)), y5, y6, none, none, none] := fun st => by
      generalize X.map opD = XD at *
      generalize (rs.map rowD) = LN at *
      generalize TNp t l m = PG at *
      generalize tfD X = oc at *
      simp [k]
    by_cases c0 : look X (0, 0) = some 0
    · rw [decide_eq_true c0, Bool.true_and]
      have st : ∀ st : Fs, (seqS (iffS (orT (cmpT (diG true) (tupS (consL (cS (.int 0)) (consL (cS (.int 0)) nilL))) (vS 4)) (cmpT neG (bin2 dgG (vS 4) (tupS (consL (cS (.int 0)) (consL (cS (.int 0)) nilL)))) (cS (.int 0)))) (retS (cS (.bl false))) doneS) st) [some (.dat (.lst (rs.map rowD))), some (.dat (TNp t l m)), some (.dat (.lst (X.map opD))), some (.dat (totD tot)), some (.own (tfD X)), y5, y6, none, none, none] =
          st [some (.dat (.lst (rs.map rowD))), some (.dat (TNp t l m)), some (.dat (.lst (X.map opD))), some (.dat (totD tot)), some (.own (tfD X)), y5, y6, none, none, none] := fun st => by
        rw [c0] at h1
        unfold tfD
        generalize (X.map fun x => keyP x.1) = ks at *
        generalize (X.map fun x => Z.D.int x.2) = ds at *
        simp [h1]
      show (b__law_shows _).bind fin = _
      unfold b__law_shows
      show ((seqS _ _) [some (.dat (.lst (rs.map rowD))), some (.dat (TNp t l m)), some (.dat (.lst (X.map opD))), some (.dat (totD tot)), none, none, none, none, none, none]).bind fin = _
      rw [pre, st]
      obtain ⟨k1, k2⟩ := ls_loop (l := l) ht he hlen (C := some (.dat (.lst (X.map opD)))) (E := some (.dat (totD tot))) (x7 := none) (x8 := none) (X := X) (T := X) hX hs1 hs2
      cases h3 : X.all (chkF t rs l m X) with
      | false =>
        obtain ⟨e2, k3⟩ := k2 h3
        rw [Bool.false_and]
        generalize X.map opD = XD at *
        generalize (rs.map rowD) = LN at *
        generalize TNp t l m = PG at *
        generalize tfD X = oc at *
        simp [k3]
      | true =>
        obtain ⟨z5, z6, z7, z8, k3, hz1, hz2⟩ := k1 h3
        rw [Bool.true_and]
        have k4 := ls_ends (rs := rs) (B := some (.dat (TNp t l m))) (TT := some (.dat (totD tot))) (KN := some (.own (tfD X))) (y7 := z7) (y8 := z8) hl hz1 hz2
        have hel := ends_len (rs := rs) (X := X)
        cases tot with
        | none =>
          show _ = some (Rt.dat (.bl (endsF rs X).isEmpty))
          simp only [totD] at k3 k4 ⊢
          have e1 : eqG (.lst ((endsF rs X).map Z.D.int)) (.lst []) = some (endsF rs X).isEmpty := by
            show (intsOf ((endsF rs X).map Z.D.int)).bind (fun ns => (intsOf []).bind fun ms => some (decide (ns = ms))) = _
            rw [intsOf_map]
            show some (decide (endsF rs X = [])) = _
            cases endsF rs X <;> rfl
          generalize X.map opD = XD at *
          generalize (rs.map rowD) = LN at *
          generalize TNp t l m = PG at *
          generalize tfD X = oc at *
          generalize endsF rs X = es at *
          simp [-s_lcS, k3, k4, e1]
        | some z =>
          have k5 := ls_all (A := some (.dat (.lst (rs.map rowD)))) (B := some (.dat (TNp t l m))) (C := some (.dat (.lst (X.map opD)))) (KN := some (.own (tfD X))) (y5 := z5) (y7 := z7) (y8 := z8) (z := z) (vs := endsF rs X) (by omega) hz2
          show _ = some (Rt.dat (.bl ((endsF rs X).all fun v => decide (z ≤ v))))
          simp only [totD] at k3 k4 ⊢
          have e2 := bls_all ((endsF rs X).map fun v => decide (z ≤ v))
          have e3 : ((endsF rs X).map fun v => decide (z ≤ v)).all id = (endsF rs X).all fun v => decide (z ≤ v) := by rw [List.all_map]; rfl
          generalize X.map opD = XD at *
          generalize (rs.map rowD) = LN at *
          generalize TNp t l m = PG at *
          generalize tfD X = oc at *
          generalize endsF rs X = es at *
          generalize (es.map fun v => decide (z ≤ v)) = BS at *
          simp [-s_lcS, -List.map_map, k3, k4, k5, e2, e3]
    · rw [decide_eq_false c0, Bool.false_and]
      show (b__law_shows _).bind fin = _
      unfold b__law_shows
      show ((seqS _ _) [some (.dat (.lst (rs.map rowD))), some (.dat (TNp t l m)), some (.dat (.lst (X.map opD))), some (.dat (totD tot)), none, none, none, none, none, none]).bind fin = _
      rw [pre]
      unfold tfD
      generalize (X.map fun x => keyP x.1) = ks at *
      generalize (X.map fun x => Z.D.int x.2) = ds at *
      cases hv : look X (0, 0) with
      | none => rw [hv] at h1; simp [h1]
      | some v =>
        rw [hv] at h1 c0
        have c : ¬ v = 0 := fun z => c0 (by rw [z])
        simp [h1, c]
end
end K77

set_option Elab.async false
set_option linter.all false
set_option maxRecDepth 100000
set_option maxHeartbeats 1000000
namespace K77
open PySem PySem.Spec PyProof.Rows L2 Z
/-! ### what is shown does not hang on the order of the rows -/
theorem look_perm {X Y : Tf} (h : X.Perm Y) (hk : Kd X) (q : Pl) : look X q = look Y q := by
  have hk2 : Kd Y := (h.map (fun x : Pl × Int => x.1)).nodup_iff.mp hk
  cases e : look X q with
  | some v => exact (look_of hk2 (h.mem_iff.mp (look_mem e))).symm
  | none =>
    cases e2 : look Y q with
    | none => rfl
    | some v =>
      have := look_of hk (h.mem_iff.mpr (look_mem e2))
      rw [e] at this; cases this
theorem all_perm {α : Type} {X Y : List α} (h : X.Perm Y) (f : α → Bool) : X.all f = Y.all f := by
  rw [Bool.eq_iff_iff, List.all_eq_true, List.all_eq_true]
  exact ⟨fun z x hx => z x (h.mem_iff.mpr hx), fun z x hx => z x (h.mem_iff.mp hx)⟩
section
variable {t : List (Option Int)} {rs : List (List Ed)} {l m : Nat}
theorem ends_perm {X Y : Tf} (h : X.Perm Y) : (endsF rs X).Perm (endsF rs Y) := (h.filter _).map _
theorem shF_perm {X Y : Tf} (h : X.Perm Y) (hk : Kd X) (tot : Option Int) : shF t rs l m X tot = shF t rs l m Y tot := by
  have e1 : chkF t rs l m X = chkF t rs l m Y := by
    funext x
    unfold chkF
    congr 1
    funext o
    unfold okStep
    rw [look_perm h hk]
  have e2 : totF rs X tot = totF rs Y tot := by
    have hp := ends_perm (rs := rs) h
    cases tot with
    | none =>
      show (endsF rs X).isEmpty = (endsF rs Y).isEmpty
      rw [Bool.eq_iff_iff, List.isEmpty_iff, List.isEmpty_iff]
      exact ⟨fun z => by rw [z] at hp; exact (List.nil_perm.mp hp), fun z => by rw [z] at hp; exact (List.perm_nil.mp hp)⟩
    | some z => exact all_perm hp _
  unfold shF
  rw [e1, e2, all_perm h, look_perm h hk, all_perm h (chkF t rs l m Y)]
/-! ### the best cost -/
theorem ltW_le {a b : W} (h : ltW a b = true) : a.1 ≤ b.1 := by
  rw [ltW_eq] at h
  split at h
  · rename_i e
    have : a.1 = b.1 := congrArg (·.1) e
    omega
  · unfold lex3 rkW at h
    rw [HT.lexLt_cons] at h
    dsimp only at h
    split at h
    · omega
    · have := of_decide_eq_true h; omega
theorem ltW_nle {a b : W} (h : ltW a b = false) : b.1 ≤ a.1 := by
  rw [ltW_eq] at h
  split at h
  · rename_i e
    have : a.1 = b.1 := congrArg (·.1) e
    omega
  · unfold lex3 rkW at h
    rw [HT.lexLt_cons] at h
    dsimp only at h
    split at h
    · omega
    · have := of_decide_eq_false h; omega
theorem bet_le1 {a : W} (c : Option W) : ∃ w, bet (some a) c = some w ∧ w.1 ≤ a.1 := by
  cases c with
  | none => exact ⟨a, rfl, Int.le_refl _⟩
  | some x =>
    unfold bet
    dsimp only
    cases h : ltW x a with
    | true => exact ⟨x, by rw [if_pos rfl], ltW_le h⟩
    | false => exact ⟨a, by rw [if_neg Bool.false_ne_true], Int.le_refl _⟩
theorem bet_le2 {x : W} (c : Option W) : ∃ w, bet c (some x) = some w ∧ w.1 ≤ x.1 := by
  cases c with
  | none => exact ⟨x, rfl, Int.le_refl _⟩
  | some a =>
    unfold bet
    dsimp only
    cases h : ltW x a with
    | true => exact ⟨x, by rw [if_pos rfl], Int.le_refl _⟩
    | false => exact ⟨a, by rw [if_neg Bool.false_ne_true], ltW_nle h⟩
theorem ext_cost {o : Op} {w : W} : (ext o w).1 = w.1 + o.2 := by unfold ext; split <;> rfl
theorem fold_le1 {V : Pl → Option W} : ∀ (os : List Op) (a : W), ∃ w, os.foldl (stepW V) (some a) = some w ∧ w.1 ≤ a.1
  | [], a => ⟨a, rfl, Int.le_refl _⟩
  | o :: os, a => by
    obtain ⟨w1, h1, h2⟩ := bet_le1 (a := a) ((V o.1).map (ext o))
    obtain ⟨w, h3, h4⟩ := fold_le1 (V := V) os w1
    exact ⟨w, by rw [List.foldl_cons]; show os.foldl (stepW V) (bet (some a) _) = _; rw [h1]; exact h3, by omega⟩
theorem fold_le2 {V : Pl → Option W} : ∀ (os : List Op) (b : Option W) {o : Op} {w' : W}, o ∈ os → V o.1 = some w' → ∃ w, os.foldl (stepW V) b = some w ∧ w.1 ≤ w'.1 + o.2
  | q :: os, b, o, w', ho, hv => by
    rw [List.foldl_cons]
    rcases List.mem_cons.mp ho with e | e
    · subst e
      obtain ⟨w1, h1, h2⟩ := bet_le2 (x := ext o w') b
      obtain ⟨w, h3, h4⟩ := fold_le1 (V := V) os w1
      refine ⟨w, ?_, by rw [ext_cost] at h2; omega⟩
      have : stepW V b o = some w1 := by unfold stepW; rw [hv]; exact h1
      rw [this]; exact h3
    · exact fold_le2 os _ e hv
theorem val_step (ho : EdOk rs) (hl : 1 ≤ l) {p : Pl} {o : Op} (h : o ∈ folF t rs l m p) {w' : W} (hv : val t rs l m o.1 = some w') : ∃ w, val t rs l m p = some w ∧ w.1 ≤ w'.1 + o.2 := by
  rw [val_eq ho hl p]
  exact fold_le2 _ _ h hv
/-- no more than it costs to get there -/
def Snd (t : List (Option Int)) (rs : List (List Ed)) (l m : Nat) (T : Tf) : Prop := ∀ q v, look T q = some v → ∀ w, val t rs l m q = some w → ∃ w0, val t rs l m (0, 0) = some w0 ∧ w0.1 ≤ v + w.1
theorem snd_relax (ho : EdOk rs) (hl : 1 ≤ l) {T : Tf} {p : Pl} {o : Op} (h : Snd t rs l m T) (hm : o ∈ folF t rs l m p) : Snd t rs l m (relax p T o) := by
  have put : ∀ v, look T p = some v → Snd t rs l m (putT T o.1 (v + o.2)) := fun v hv q u hu w hw => by
    rw [look_put] at hu
    split at hu
    · rename_i e
      subst e
      cases hu
      obtain ⟨w1, h1, h2⟩ := val_step ho hl hm hw
      obtain ⟨w0, h3, h4⟩ := h p v hv w1 h1
      exact ⟨w0, h3, by omega⟩
    · exact h q u hu w hw
  unfold relax
  cases hv : look T p with
  | none => exact h
  | some v =>
    dsimp only
    split
    · exact put v hv
    · split
      · exact put v hv
      · exact h
theorem snd_fold (ho : EdOk rs) (hl : 1 ≤ l) {p : Pl} : ∀ (os : List Op) {T : Tf}, Snd t rs l m T → (∀ o ∈ os, o ∈ folF t rs l m p) → Snd t rs l m (os.foldl (relax p) T)
  | [], T, h, _ => h
  | o :: os, T, h, hm => snd_fold ho hl os (snd_relax ho hl h (hm o List.mem_cons_self)) fun q hq => hm q (List.mem_cons_of_mem _ hq)
theorem snd_all (ho : EdOk rs) (hl : 1 ≤ l) : ∀ (ps : List Pl) {T : Tf}, Snd t rs l m T → Snd t rs l m (ps.foldl (stepF t rs l m) T)
  | [], T, h => h
  | p :: ps, T, h => snd_all ho hl ps (snd_fold ho hl _ h fun o ho => ho)
theorem fwd_snd (ho : EdOk rs) (hl : 1 ≤ l) : Snd t rs l m (fwdF t rs l m) := snd_all ho hl _ fun q v hv w hw => by
  have := look_mem hv
  rw [List.mem_singleton] at this
  cases this
  exact ⟨w, hw, by omega⟩
/-! closed -/
theorem relax_mono {p : Pl} {T : Tf} {o : Op} {q : Pl} {u : Int} (h : look T q = some u) : ∃ u', look (relax p T o) q = some u' ∧ u' ≤ u := by
  unfold relax
  split
  · exact ⟨u, h, Int.le_refl _⟩
  · rename_i v hv
    split
    · rename_i hn
      rw [look_put]
      split
      · rename_i e; rw [e, hn] at h; cases h
      · exact ⟨u, h, Int.le_refl _⟩
    · rename_i u1 hu
      split
      · rename_i c
        rw [look_put]
        split
        · rename_i e
          rw [e, hu] at h
          cases h
          exact ⟨_, rfl, by omega⟩
        · exact ⟨u, h, Int.le_refl _⟩
      · exact ⟨u, h, Int.le_refl _⟩
theorem fold_mono {p : Pl} : ∀ (os : List Op) {T : Tf} {q : Pl} {u : Int}, look T q = some u → ∃ u', look (os.foldl (relax p) T) q = some u' ∧ u' ≤ u
  | [], T, q, u, h => ⟨u, h, Int.le_refl _⟩
  | o :: os, T, q, u, h => by
    obtain ⟨u1, h1, h2⟩ := relax_mono (p := p) (o := o) h
    obtain ⟨u2, h3, h4⟩ := fold_mono os h1
    exact ⟨u2, h3, by omega⟩
theorem relax_other {p : Pl} {T : Tf} {o : Op} {q : Pl} (h : q ≠ o.1) : look (relax p T o) q = look T q := by
  unfold relax
  split
  · rfl
  · split
    · rw [look_put, if_neg h]
    · split
      · rw [look_put, if_neg h]
      · rfl
theorem fold_other {p : Pl} : ∀ (os : List Op) {T : Tf} {q : Pl}, (∀ o ∈ os, q ≠ o.1) → look (os.foldl (relax p) T) q = look T q
  | [], T, q, _ => rfl
  | o :: os, T, q, h => by rw [List.foldl_cons, fold_other os fun x hx => h x (List.mem_cons_of_mem _ hx), relax_other (h o List.mem_cons_self)]
theorem relax_hit {p : Pl} {T : Tf} {o : Op} {v : Int} (h : look T p = some v) : ∃ u, look (relax p T o) o.1 = some u ∧ u ≤ v + o.2 := by
  unfold relax
  rw [h]
  dsimp only
  split
  · rw [look_put, if_pos rfl]; exact ⟨_, rfl, Int.le_refl _⟩
  · rename_i u hu
    split
    · rw [look_put, if_pos rfl]; exact ⟨_, rfl, Int.le_refl _⟩
    · exact ⟨u, hu, by omega⟩
theorem fold_hit {p : Pl} : ∀ (os : List Op) {T : Tf} {v : Int}, look T p = some v → (∀ o ∈ os, p ≠ o.1) → ∀ o ∈ os, ∃ u, look (os.foldl (relax p) T) o.1 = some u ∧ u ≤ v + o.2
  | o :: os, T, v, h, hp, q, hq => by
    rw [List.foldl_cons]
    rcases List.mem_cons.mp hq with e | e
    · subst e
      obtain ⟨u, h1, h2⟩ := relax_hit (o := q) h
      obtain ⟨u2, h3, h4⟩ := fold_mono (p := p) os h1
      exact ⟨u2, h3, by omega⟩
    · exact fold_hit os (by rw [relax_other (hp o List.mem_cons_self)]; exact h) (fun x hx => hp x (List.mem_cons_of_mem _ hx)) q e
def Clo (t : List (Option Int)) (rs : List (List Ed)) (l m : Nat) (T : Tf) (p : Pl) : Prop := ∀ v, look T p = some v → ∀ o ∈ folF t rs l m p, ∃ u, look T o.1 = some u ∧ u ≤ v + o.2
theorem bef_irr {p : Pl} : ¬ Bef p p := fun h => by rcases h with h | ⟨_, h⟩ <;> omega
theorem bef_tr {p q r : Pl} (h1 : Bef p q) (h2 : Bef q r) : Bef p r := by
  unfold Bef at *
  omega
theorem clo_step (ho : EdOk rs) (hl : 1 ≤ l) {T : Tf} {p : Pl} {pre : List Pl} (h : ∀ q ∈ pre, Clo t rs l m T q) (hb : ∀ q ∈ pre, Bef p q) : ∀ q ∈ pre ++ [p], Clo t rs l m (stepF t rs l m T p) q := by
  have hp : ∀ o ∈ folF t rs l m p, p ≠ o.1 := fun o hm e => bef_irr (p := p) (by have := fol_bef ho hl hm; rw [← e] at this; exact this)
  intro q hq v hv o hm
  unfold stepF at hv ⊢
  rcases List.mem_append.mp hq with hq | hq
  · have hn : ∀ x ∈ folF t rs l m p, q ≠ x.1 := fun x hx e => bef_irr (p := q) (by
      have h1 := fol_bef ho hl hx
      rw [← e] at h1
      exact bef_tr h1 (hb q hq))
    rw [fold_other _ hn] at hv
    obtain ⟨u, h1, h2⟩ := h q hq v hv o hm
    obtain ⟨u2, h3, h4⟩ := fold_mono (p := p) (folF t rs l m p) h1
    exact ⟨u2, h3, by omega⟩
  · rw [List.mem_singleton] at hq
    subst hq
    rw [fold_other _ hp] at hv
    exact fold_hit _ hv hp o hm
theorem clo_all (ho : EdOk rs) (hl : 1 ≤ l) : ∀ (ps pre : List Pl) {T : Tf}, (∀ q ∈ pre, Clo t rs l m T q) → (pre ++ ps).Pairwise (fun x y => Bef y x) → ∀ q ∈ pre ++ ps, Clo t rs l m (ps.foldl (stepF t rs l m) T) q
  | [], pre, T, h, _ => by rw [List.append_nil]; exact h
  | p :: ps, pre, T, h, hb => by
    have e : pre ++ p :: ps = (pre ++ [p]) ++ ps := by simp
    rw [e] at hb ⊢
    refine clo_all ho hl ps (pre ++ [p]) (clo_step ho hl h fun q hq => ?_) hb
    rw [← e] at hb
    exact (List.pairwise_append.mp hb).2.2 q hq p List.mem_cons_self
theorem fwd_clo (ho : EdOk rs) (hl : 1 ≤ l) {p : Pl} (hp : p.1 ≤ rs.length ∧ p.2 ≤ m) : Clo t rs l m (fwdF t rs l m) p :=
  clo_all ho hl (plsF rs.length m) [] (fun _ z => nomatch z) (List.pairwise_reverse.mp pls_bef) p (plsF_mem.mpr hp)
end
end K77

set_option Elab.async false
set_option linter.all false
set_option maxRecDepth 100000
set_option maxHeartbeats 1000000
namespace K77
open PySem PySem.Spec PyProof.Rows L2 Z
section
variable {t : List (Option Int)} {rs : List (List Ed)} {l m : Nat}
def Epos (n : Nat) (T : Tf) : Prop := ∀ x ∈ T, x.1.1 = n → 0 < x.1.2
theorem epos_put {n : Nat} {T : Tf} {q : Pl} {s : Int} (h : Epos n T) (hq : q.1 = n → 0 < q.2) : Epos n (putT T q s) := fun x hx e => by
  rcases putT_mem hx with z | ⟨y, hy, z⟩
  · rw [z] at e ⊢; exact hq e
  · rw [← z] at e ⊢; exact h y hy e
theorem epos_relax {n : Nat} {T : Tf} {p : Pl} {o : Op} (h : Epos n T) (hq : o.1.1 = n → 0 < o.1.2) : Epos n (relax p T o) := by
  unfold relax
  split
  · exact h
  · split
    · exact epos_put h hq
    · split
      · exact epos_put h hq
      · exact h
theorem epos_fold {n : Nat} {p : Pl} : ∀ (os : List Op) {T : Tf}, Epos n T → (∀ o ∈ os, o.1.1 = n → 0 < o.1.2) → Epos n (os.foldl (relax p) T)
  | [], T, h, _ => h
  | o :: os, T, h, hm => epos_fold os (epos_relax h (hm o List.mem_cons_self)) fun q hq => hm q (List.mem_cons_of_mem _ hq)
theorem epos_all (ho : EdOk rs) : ∀ (ps : List Pl) {T : Tf}, Epos rs.length T → Epos rs.length (ps.foldl (stepF t rs l m) T)
  | [], T, h => h
  | p :: ps, T, h => epos_all ho ps (epos_fold _ h fun o hm e => by
      rcases fol_mem ho hm with ⟨h1, _, h2, _⟩ | ⟨_, _, h1, _⟩
      · omega
      · omega)
theorem fwd_epos (ho : EdOk rs) (hn : 1 ≤ rs.length) : Epos rs.length (fwdF t rs l m) := epos_all ho _ fun x hx e => by
  rw [List.mem_singleton.mp hx] at e
  simp only at e
  omega
theorem val_end (ho : EdOk rs) (hl : 1 ≤ l) {q : Pl} (h1 : q.1 = rs.length) (h2 : 0 < q.2) : val t rs l m q = some (0, 0, 0, [[]]) := by
  rw [val_eq ho hl, fol_end h1]
  show startW rs.length q = _
  unfold startW
  rw [if_pos ⟨h1, h2⟩]
theorem reach (ho : EdOk rs) (hl : 1 ≤ l) : ∀ (k : Nat) (p : Pl) (v : Int) (w : W), mu rs.length p < k → p.1 ≤ rs.length ∧ p.2 ≤ m → look (fwdF t rs l m) p = some v → val t rs l m p = some w → ∃ q u, look (fwdF t rs l m) q = some u ∧ q.1 = rs.length ∧ u ≤ v + w.1
  | k + 1, p, v, w, hk, hp, hv, hw => by
    have hw' := hw
    rw [val_eq ho hl p] at hw'
    rcases fold_src _ _ hw' with h | ⟨o, hm, w', h1, h2⟩
    · obtain ⟨e1, _, e3⟩ := start_src h
      refine ⟨p, v, hv, e1, ?_⟩
      rw [e3]
      show v ≤ v + 0
      omega
    · obtain ⟨u, h3, h4⟩ := fwd_clo ho hl hp v hv o hm
      have hmu := fol_mu ho hl hm
      obtain ⟨q, u2, h5, h6, h7⟩ := reach ho hl k o.1 u w' (by omega) (fol_in ho hp.2 hp.1 hm) h3 h1
      refine ⟨q, u2, h5, h6, ?_⟩
      rw [h2, ext_cost]
      omega
theorem ends_mem {X : Tf} {v : Int} : v ∈ endsF rs X ↔ ∃ q : Pl, (q, v) ∈ X ∧ q.1 = rs.length := by
  unfold endsF
  constructor
  · intro h
    obtain ⟨x, hx, rfl⟩ := List.mem_map.mp h
    obtain ⟨h1, h2⟩ := List.mem_filter.mp hx
    exact ⟨x.1, h1, by simpa using h2⟩
  · rintro ⟨q, h1, h2⟩
    exact List.mem_map.mpr ⟨(q, v), List.mem_filter.mpr ⟨h1, by simpa using h2⟩, rfl⟩
theorem best_cost (ho : EdOk rs) (hl : 1 ≤ l) (hn : 1 ≤ rs.length) {X : Tf} (hX : X.Perm (fwdF t rs l m)) :
    (endsF rs X = [] → val t rs l m (0, 0) = none) ∧ ∀ n0 r0, endsF rs X = n0 :: r0 → ∃ w, val t rs l m (0, 0) = some w ∧ r0.foldl min n0 = w.1 := by
  have hk : Kd (fwdF t rs l m) := (fwd_rg ho).1
  have h0 : ∃ v, look (fwdF t rs l m) (0, 0) = some v ∧ v ≤ 0 := by
    have : ∀ (ps : List Pl) (T : Tf) (u : Int), look T (0, 0) = some u → ∃ v, look (ps.foldl (stepF t rs l m) T) (0, 0) = some v ∧ v ≤ u := by
      intro ps
      induction ps with
      | nil => exact fun T u h => ⟨u, h, Int.le_refl _⟩
      | cons p ps ih =>
        intro T u h
        obtain ⟨u1, h1, h2⟩ := fold_mono (p := p) (folF t rs l m p) h
        obtain ⟨v, h3, h4⟩ := ih _ u1 h1
        exact ⟨v, h3, by omega⟩
    exact this _ _ 0 rfl
  obtain ⟨v0, hv0, hle⟩ := h0
  have hr : ∀ w, val t rs l m (0, 0) = some w → ∃ u ∈ endsF rs X, u ≤ w.1 := fun w hw => by
    obtain ⟨q, u, h1, h2, h3⟩ := reach ho hl _ (0, 0) v0 w (Nat.lt_succ_self _) ⟨Nat.zero_le _, Nat.zero_le _⟩ hv0 hw
    exact ⟨u, ends_mem.mpr ⟨q, hX.mem_iff.mpr (look_mem h1), h2⟩, by omega⟩
  have hs : ∀ u ∈ endsF rs X, ∃ w, val t rs l m (0, 0) = some w ∧ w.1 ≤ u := fun u hu => by
    obtain ⟨q, h1, h2⟩ := ends_mem.mp hu
    have h3 := hX.mem_iff.mp h1
    have h4 := val_end (t := t) (l := l) (m := m) ho hl h2 (fwd_epos ho hn _ h3 h2)
    obtain ⟨w, h5, h6⟩ := fwd_snd ho hl q u (look_of hk h3) _ h4
    exact ⟨w, h5, by have e : u + (0 : Int) = u := Int.add_zero u; rw [← e]; exact h6⟩
  refine ⟨fun e => ?_, fun n0 r0 e => ?_⟩
  · cases h : val t rs l m (0, 0) with
    | none => rfl
    | some w =>
      obtain ⟨u, hu, _⟩ := hr w h
      rw [e] at hu; cases hu
  · obtain ⟨w, h1, h2⟩ := hs n0 (by rw [e]; exact List.mem_cons_self)
    refine ⟨w, h1, ?_⟩
    have f1 := foldl_min_le r0 n0
    have f2 := foldl_min_mem r0 n0
    obtain ⟨u, hu, hu2⟩ := hr w h1
    obtain ⟨w2, h3, h4⟩ := hs _ (by rw [e]; exact f2)
    rw [h1] at h3
    cases h3
    rw [e] at hu
    have : r0.foldl min n0 ≤ u := by
      rcases List.mem_cons.mp hu with z | z
      · rw [z]; exact f1.1
      · exact f1.2 u z
    omega
/-! ### the rows in order -/
def sT (T : Tf) : Tf := T.mergeSort fun x y => le3 (toR x) (toR y)
theorem sT_perm (T : Tf) : (sT T).Perm T := List.mergeSort_perm _ _
theorem rowsT_eq (T : Tf) : (rowsT T).map Z.rowD = (sT T).map opD := by
  have : rowsT T = (sT T).map toR := by
    unfold rowsT sT
    exact (List.map_mergeSort (r := fun x y => le3 (toR x) (toR y)) (s := le3) (f := toR) (l := T) fun a _ b _ => rfl).symm
  rw [this, List.map_map]
  rfl
theorem sT_rg {n : Nat} {T : Tf} (h : Rg n m T) : Rg n m (sT T) := by
  have hp := sT_perm T
  exact ⟨(hp.map (fun x : Pl × Int => x.1)).nodup_iff.mpr h.1, fun x hx => h.2 x (hp.mem_iff.mp hx)⟩
/-- sorted([(place, found[place]) for place in found]) -/
theorem sorted_rows (T : Tf) (hl : T.length ≤ 16777216) : sortRG [.lst ((T.map toR).map Z.rowD)] = some (.own (.lst ((sT T).map opD))) := by
  have : rowsZ ((T.map toR).map Z.rowD) = some (T.map toR) := by
    generalize T.map toR = R
    induction R with
    | nil => rfl
    | cons r R ih => rw [List.map_cons]; unfold rowsZ; rw [ih]; rfl
  rw [s_sortR, this, Option.bind_some, if_pos (by rw [List.length_map]; exact hl)]
  show some (Rv.own (.lst ((rowsT T).map Z.rowD))) = _
  rw [rowsT_eq]
end
end K77

set_option Elab.async false
set_option linter.all false
set_option maxRecDepth 100000
set_option maxHeartbeats 1000000
namespace K77
open PySem PySem.Spec PyProof.Rows L2 Z
section
variable {env : En} {k : Nat} {f : Fe} {fs : Fa}
@[simp] theorem s_popS : popS k f env = (lstOf env k).bind fun _ => (f env).bind fun p => (rd p.2 (fz p.1)).bind fun dk => (intOf dk).bind fun n => (lstOf p.2 k).bind fun ds => (ixN ds.length n).bind fun j => ds[j]?.bind fun d => if n.natAbs < 2 ^ 62 then some (.dat d, setOC p.2 k (.lst (ds.eraseIdx j))) else none := rfl
@[simp] theorem s_lrg : lrgS fs env = (fs env).bind fun p => (rdL p.2 p.1).bind fun ds => match ds with
  | [.int n] => if n.natAbs ≤ 16777216 then some (.own (.lst (rngD 0 n.toNat)), p.2) else none
  | _ => none := rfl
@[simp] theorem s_pop0 : pop0S k env = (lstOf env k).bind fun ds => ds[ds.length - 1]?.bind fun d => some (.dat d, setOC env k (.lst ds.dropLast)) := rfl
end
theorem eIdx_map {α β : Type} (f : α → β) : ∀ (l : List α) (i : Nat), (l.map f).eraseIdx i = (l.eraseIdx i).map f
  | [], i => rfl
  | a :: l, 0 => rfl
  | a :: l, i + 1 => by
    show f a :: (l.map f).eraseIdx i = f a :: (l.eraseIdx i).map f
    rw [eIdx_map f l i]
theorem eIdx_perm {α : Type} : ∀ (l : List α) (k : Nat) (h : k < l.length), (l[k] :: l.eraseIdx k).Perm l
  | a :: l, 0, h => List.Perm.refl _
  | a :: l, k + 1, h => by
    have hk : k < l.length := by simpa using h
    have ih := eIdx_perm l k hk
    show (l[k] :: a :: l.eraseIdx k).Perm (a :: l)
    exact (List.Perm.swap a l[k] _).trans (List.Perm.cons a ih)
theorem order_ok {o : OC} {n : Nat} (P : PoolOk o) (hn : n ≤ 4900) : ∃ (od : List Nat) (o' : OC), m__law_order o [.int (n : Int)] = some (.dat (.tup (od.map nD)), o') ∧ od.Perm (List.range n) ∧ PoolOk o' := by
  obtain ⟨env', h3, fo, lf, o3, y, he, hl, hp, P3⟩ := forS_nx (b := nmB 4) (f := l__law_order_1)
    (fun ds env => ∃ (fo lf : List Nat) (o3 : OC) (y : Option Sl), env = [some (.par o3), some (.dat (.int (n : Int))), some (.own (.lst (lf.map nD))), some (.dat (.tup (fo.map nD))), y] ∧ lf.length = ds.length ∧ (fo ++ lf).Perm (List.range n) ∧ PoolOk o3)
    (by
      rintro d ds env ⟨fo, lf, o3, y, rfl, hl, hp, P⟩
      rw [List.length_cons] at hl
      have hle := hp.length_eq
      rw [List.length_range, List.length_append] at hle
      obtain ⟨k, o4, h4, a4, b4, P4⟩ := take_ok (m := (lf.length : Int)) P (by omega) (by omega)
      have hk : k.toNat < lf.length := by omega
      have hkn : k.natAbs < 4611686018427387904 := by omega
      have hix : ixN lf.length k = some k.toNat := by unfold ixN; rw [if_pos a4, if_pos b4]
      have hg : lf[k.toNat]? = some lf[k.toNat] := List.getElem?_eq_getElem hk
      have hlen : fo.length + 1 ≤ 16777216 := by omega
      refine ⟨_, _, rfl, ?_, fo ++ [lf[k.toNat]], lf.eraseIdx k.toNat, o4, some (.dat d), rfl, by rw [List.length_eraseIdx_of_lt hk]; omega, ?_, P4⟩
      · simp [l__law_order_1, h4, hix, hg, hkn, hlen, eIdx_map]
      · rw [List.append_assoc]
        exact (List.Perm.append_left fo (eIdx_perm lf k.toNat hk)).trans hp)
    (rngD 0 n) [some (.par o), some (.dat (.int (n : Int))), some (.own (.lst ((List.range n).map nD))), some (.dat (.tup [])), none] ⟨[], List.range n, o, none, rfl, by rw [List.length_range, rngD_length], List.Perm.refl _, P⟩
  have hlf : lf = [] := List.length_eq_zero_iff.mp hl
  subst hlf
  subst he
  rw [List.append_nil] at hp
  have hV2 : n < 2305843009213693952 := by omega
  have hV3 : n ≤ 16777216 := by omega
  rw [← rng0] at h3
  exact ⟨fo, o3, by simp [m__law_order, b__law_order, h3, hV2, hV3], hp, P3⟩
theorem range_get {X : Tf} {z : Pl × Int} : (List.range X.length).map (fun k => X.getD k z) = X := by
  refine List.ext_getElem (by simp) fun i h1 h2 => ?_
  simp [List.getD_eq_getElem?_getD, List.getElem?_eq_getElem h2]
theorem mixed_ok {o : OC} {X : Tf} (P : PoolOk o) (hl : X.length ≤ 4900) : ∃ (Y : Tf) (o' : OC), m__law_mixed o [.lst (X.map opD)] = some (.dat (.ptup (Y.map opD)), o') ∧ Y.Perm X ∧ PoolOk o' := by
  obtain ⟨od, o1, h1, hp, P1⟩ := order_ok (n := X.length) P hl
  have hmem : ∀ k ∈ od, k < X.length := fun k hk => List.mem_range.mp (hp.mem_iff.mp hk)
  have hlo : od.length = X.length := by have := hp.length_eq; rwa [List.length_range] at this
  refine ⟨od.map fun k => X.getD k ((0, 0), 0), o1, ?_, ?_, P1⟩
  · have k := lcS_filt (fi := seqI (callM m__law_order 0 (consL (vS 0) (consL (cbS lenG (consL (vS 1) nilL)) nilL)))) (gb := nmB 2) (t := yesT) (f := e__law_mixed_1) (vs := [2]) (env := [some (.par o), some (.dat (.lst (X.map opD))), none]) (env1 := [some (.par o1), some (.dat (.lst (X.map opD))), none])
      nD (fun _ => true) (fun k : Nat => opD (X.getD k ((0, 0), 0))) (os := od) (by simp [h1]) (by omega) (by simp) (fun k hk => by
        have hk2 := hmem k hk
        have ha : atI (X.map opD) (k : Int) = some (opD (X.getD k ((0, 0), 0))) := at_nat (by rw [List.getElem?_map, List.getD_eq_getElem?_getD, List.getElem?_eq_getElem hk2]; rfl)
        have hx : ixG (.lst (X.map opD)) (nD k) = some (.dat (opD (X.getD k ((0, 0), 0)))) := by show (atI (X.map opD) (k : Int)).bind (fun d => some (Rv.dat d)) = _; rw [ha]; rfl
        exact ⟨[some (.par o1), some (.dat (.lst (X.map opD))), some (.dat (nD k))], .dat (opD (X.getD k ((0, 0), 0))), by simp, by simp, by simp [-List.getD_eq_getElem?_getD, e__law_mixed_1, hx], rfl, by simp⟩)
    rw [List.filter_eq_self.mpr (fun _ _ => rfl)] at k
    rw [List.map_map]
    change _ = some (Rv.own (.lst (od.map (opD ∘ fun k => X.getD k ((0, 0), 0)))), _) at k
    generalize od.map (opD ∘ fun k => X.getD k ((0, 0), 0)) = YD at *
    generalize X.map opD = XD at *
    simp [-s_lcS, m__law_mixed, b__law_mixed, k]
  · have := hp.map fun k => X.getD k ((0, 0), 0)
    rwa [range_get] at this
end K77

set_option Elab.async false
set_option linter.all false
set_option maxRecDepth 100000
set_option maxHeartbeats 1000000
namespace K77
open PySem PySem.Spec PyProof.Rows L2 Z
theorem cut_to {α : Type} {xs : List α} {k : Nat} (h : k ≤ xs.length) : Z.cutD xs none (some (k : Int)) = xs.take k := by
  unfold Z.cutD
  have e1 : HT.sIx xs.length 0 none = 0 := rfl
  rw [e1, HT.sIx_nat, Nat.min_eq_left h]; rfl
theorem cut_from {α : Type} {xs : List α} {k : Nat} (h : k ≤ xs.length) : Z.cutD xs (some (k : Int)) none = xs.drop k := by
  unfold Z.cutD
  have e1 : HT.sIx xs.length xs.length none = xs.length := rfl
  rw [e1, HT.sIx_nat, Nat.min_eq_left h]
  exact List.take_of_length_le (by rw [List.length_drop]; omega)
theorem cut_map {α β : Type} {f : α → β} {xs : List α} {lo hi : Option Int} : Z.cutD (xs.map f) lo hi = (Z.cutD xs lo hi).map f := by
  unfold Z.cutD
  rw [List.length_map, List.map_take, List.map_drop]
theorem Rg.sub {n m : Nat} {X Y : Tf} (h : Rg n m X) (hs : (Y.map (·.1)).Sublist (X.map (·.1))) : Rg n m Y := ⟨List.Sublist.nodup hs h.1, fun y hy => by
  have : y.1 ∈ X.map (·.1) := hs.subset (List.mem_map.mpr ⟨y, hy, rfl⟩)
  obtain ⟨x, hx, e⟩ := List.mem_map.mp this
  rw [← e]; exact h.2 x hx⟩
theorem split_at {X : Tf} {k : Nat} (h : k < X.length) : X = X.take k ++ X[k] :: X.drop (k + 1) := by
  rw [List.getElem_cons_drop, List.take_append_drop]
theorem spoilt_ok {o : OC} {n m : Nat} {X : Tf} (P : PoolOk o) (hX : Rg n m X) (h1 : 1 ≤ X.length) (hl : X.length ≤ 4900) : ∃ (Y : Tf) (o' : OC), m__law_spoilt o [.lst (X.map opD)] = some (.own (.lst (Y.map opD)), o') ∧ Rg n m Y ∧ PoolOk o' := by
  obtain ⟨k, o1, q1, a1, b1, P1⟩ := take_ok (m := (X.length : Int)) P (by omega) (by omega)
  obtain ⟨k, rfl⟩ : ∃ j : Nat, k = (j : Int) := ⟨k.toNat, by omega⟩
  have hk : k < X.length := by omega
  have hx : atI (X.map opD) (k : Int) = some (opD X[k]) := at_nat (by rw [List.getElem?_map, List.getElem?_eq_getElem hk]; rfl)
  obtain ⟨d, o2, q2, hd, P2⟩ := pick_ok (ds := [.int 1, .int (-1), .int 1000, .int (-X[k].2), .int (-X[k].2 - 1)]) P1 (by simp) (by simp)
  obtain ⟨z, rfl⟩ : ∃ z : Int, d = .int z := by
    simp only [List.mem_cons, List.mem_nil_iff, or_false] at hd
    rcases hd with rfl | rfl | rfl | rfl | rfl <;> exact ⟨_, rfl⟩
  obtain ⟨k3, o3, q3, a3, b3, P3⟩ := take_ok (m := 3) P2 (by decide) (by decide)
  have e1 : Z.cutD (X.map opD) none (some (k : Int)) = (X.take k).map opD := by rw [cut_map, cut_to (by omega)]
  have e2 : Z.cutD (X.map opD) (some ((k : Int) + 1)) none = (X.drop (k + 1)).map opD := by rw [cut_map, show ((k : Int) + 1) = ((k + 1 : Nat) : Int) from rfl, cut_from (by omega)]
  have g1 : min k X.length + 1 ≤ 16777216 := by omega
  have g2 : min k X.length ≤ 16777216 := by omega
  have g3 : min k X.length + 1 + (X.length - (k + 1)) ≤ 16777216 := by omega
  have g4 : min k X.length + (X.length - (k + 1)) ≤ 16777216 := by omega
  have hsp := split_at hk
  by_cases c : k3 = 0
  · subst c
    refine ⟨X.take k ++ X.drop (k + 1), o3, ?_, hX.sub ?_, P3⟩
    · simp [m__law_spoilt, b__law_spoilt, q1, hx, opD, q2, q3, e1, e2, g2, g4]
    · conv => rhs; rw [hsp]
      rw [List.map_append, List.map_append, List.map_cons]
      exact List.Sublist.append_left (List.sublist_cons_self _ _) _
  · refine ⟨X.take k ++ (X[k].1, X[k].2 + z) :: X.drop (k + 1), o3, ?_, hX.sub ?_, P3⟩
    · simp [m__law_spoilt, b__law_spoilt, q1, hx, opD, q2, q3, c, e1, e2, g1, g3]
    · conv => rhs; rw [hsp]
      rw [List.map_append, List.map_append, List.map_cons, List.map_cons]
      exact List.Sublist.refl _
end K77

set_option Elab.async false
set_option linter.all false
set_option maxRecDepth 100000
set_option maxHeartbeats 2000000
namespace K77
open PySem PySem.Spec PyProof.Rows L2 Z
def knD (F : Tf) : OC := .dct (F.map fun x => keyP x.1) (F.map fun _ => Z.D.bl true)
theorem kn_put {F : Tf} {q : Pl} {s : Int} (h : look F q = none) : putZ (F.map fun x => keyP x.1) (F.map fun _ => Z.D.bl true) [.inl (q.1 : Int), .inl (q.2 : Int)] (.bl true) = (((F ++ [(q, s)]).map fun x => keyP x.1), (F ++ [(q, s)]).map fun _ => Z.D.bl true) := by
  rw [putZ_new]
  · rw [List.map_append, List.map_append]; rfl
  · intro j hj
    obtain ⟨x, hx, rfl⟩ := List.mem_map.mp hj
    exact fun z => look_none_keys.mp h (List.mem_map.mpr ⟨x, hx, keyP_inj z⟩)
section
variable {t : List (Option Int)} {rs : List (List Ed)} {l m : Nat}
theorem lo_1 {A B C E G N x10 x11 : Option Sl} {PT : Option Sl} : ∀ (X Y : Tf) (x6 x7 : Option Sl), Kd (Y ++ X) → (Y ++ X).length ≤ 4900 → Scr x6 → Scr x7 →
    ∃ y6 y7, forS (tupB 2 (consB (nmB 6) (consB (nmB 7) nilB))) l__law_other_1 (X.map opD) [A, B, C, E, PT, G, x6, x7, N, some (.own (knD Y)), x10, x11] = some (.nx [A, B, C, E, PT, G, y6, y7, N, some (.own (knD (Y ++ X))), x10, x11]) ∧ Scr y6 ∧ Scr y7
  | [], Y, x6, x7, _, _, h5, h6 => ⟨x6, x7, by rw [List.append_nil]; rfl, h5, h6⟩
  | x :: X, Y, x6, x7, hk, hl, h5, h6 => by
    have e2 : Y ++ x :: X = (Y ++ [x]) ++ X := by simp
    have h3 := kn_put (s := x.2) (kd_mid hk)
    have hl2 : (Y.map fun x => keyP x.1).length < 16777216 := by
      rw [List.length_map]
      rw [List.length_append] at hl; omega
    rw [e2] at hk hl ⊢
    obtain ⟨y6, y7, i1, i2⟩ := lo_1 (A := A) (B := B) (C := C) (E := E) (G := G) (N := N) (PT := PT) (x10 := x10) (x11 := x11) X (Y ++ [x]) (some (.dat (plD x.1))) (some (.dat (.int x.2))) hk hl Scr.dat Scr.dat
    have pre : tupB 2 (consB (nmB 6) (consB (nmB 7) nilB)) (opD x) [A, B, C, E, PT, G, x6, x7, N, some (.own (knD Y)), x10, x11] = some [A, B, C, E, PT, G, some (.dat (plD x.1)), some (.dat (.int x.2)), N, some (.own (knD Y)), x10, x11] := by
      rcases h5 with rfl | ⟨d, rfl⟩ <;> rcases h6 with rfl | ⟨d', rfl⟩ <;> simp [opD]
    have stp : l__law_other_1 [A, B, C, E, PT, G, some (.dat (plD x.1)), some (.dat (.int x.2)), N, some (.own (knD Y)), x10, x11] = some (.nx [A, B, C, E, PT, G, some (.dat (plD x.1)), some (.dat (.int x.2)), N, some (.own (knD (Y ++ [x]))), x10, x11]) := by
      unfold knD
      generalize ((Y ++ [x]).map fun x => keyP x.1) = ks' at *
      generalize ((Y ++ [x]).map fun _ => Z.D.bl true) = ds' at *
      generalize (Y.map fun x => keyP x.1) = ks at *
      generalize (Y.map fun _ => Z.D.bl true) = ds at *
      simp [l__law_other_1, plD, h3, hl2]
    refine ⟨y6, y7, ?_, i2⟩
    rw [List.map_cons]
    show (tupB 2 _ _ _).bind _ = _
    rw [pre, Option.bind_some, stp, Option.bind_some]
    exact i1
theorem hp40 : powG (.int 10) (.int 40) = some (.dat (.int 10000000000000000000000000000000000000000)) := by unfold powG; simp
theorem lo_2 (ht : t.length = rs.length) (he : EdOk rs) (hlen : ∀ i, (row rs i).length ≤ 1000) {A E PT x7 x10 : Option Sl} {F : Tf} {N : List Pl} {q : Pl} {x6 : Option Sl} (hx6 : Scr x6) (hq : q.1 ≤ rs.length ∧ q.2 ≤ m) (hF : Rg rs.length m F) (hl : F.length ≤ 5300) (hN : N.length ≤ 9000000) :
    ∃ (F' : Tf) (N' : List Pl), l__law_other_2 [A, some (.dat (.lst (rs.map rowD))), some (.dat (TNp t l m)), E, PT, some (.own (.lst (F.map opD))), x6, x7, some (.own (.lst ((N ++ [q]).map plD))), some (.own (knD F)), x10, none] = some (.nx [A, some (.dat (.lst (rs.map rowD))), some (.dat (TNp t l m)), E, PT, some (.own (.lst (F'.map opD))), some (.dat (plD q)), x7, some (.own (.lst (N'.map plD))), some (.own (knD F')), x10, none]) ∧ Rg rs.length m F' ∧ N'.length ≤ N.length + 1001 ∧ ∀ p ∈ N', p ∈ N ∨ (p.1 ≤ rs.length ∧ p.2 ≤ m) := by
  have hf := steps_ok (l := l) ht he hlen hq.1 hq.2
  have h1 : valZ (F.map fun x => keyP x.1) (F.map fun _ => Z.D.bl true) [.inl (q.1 : Int), .inl (q.2 : Int)] = (look F q).map fun _ => Z.D.bl true := look_val (g := fun _ : Int => Z.D.bl true) F
  have n1 : ((N ++ [q]).map plD)[((N ++ [q]).map plD).length - 1]? = some (plD q) := by simp
  have n2 : ((N ++ [q]).map plD).dropLast = N.map plD := by simp
  have n3 : truD (.lst ((N ++ [q]).map plD)) = some true := by
    rw [List.map_append]
    show some (!(N.map plD ++ [plD q]).isEmpty) = _
    cases N.map plD <;> rfl
  cases hv : look F q with
  | some v =>
    rw [hv] at h1
    refine ⟨F, N, ?_, hF, by omega, fun p hp => .inl hp⟩
    unfold knD
    generalize (F.map fun x => keyP x.1) = ks at *
    generalize (F.map fun _ => Z.D.bl true) = ds at *
    generalize (N ++ [q]).map plD = ND at *
    rcases hx6 with rfl | ⟨d, rfl⟩ <;> simp [l__law_other_2, n1, n2, n3, plD, h1]
  | none =>
    rw [hv] at h1
    have h3 := kn_put (s := 10000000000000000000000000000000000000000) hv
    refine ⟨F ++ [(q, 10000000000000000000000000000000000000000)], N ++ (folF t rs l m q).map (fun o : Op => o.1), ?_, ?_, ?_, ?_⟩
    · have hl2 : (F.map fun x => keyP x.1).length < 16777216 := by rw [List.length_map]; omega
      have hl3 : (F.map opD).length < 16777216 := by rw [List.length_map]; omega
      have hfl := fol_len (t := t) (l := l) (m := m) hlen (p := q)
      have hl4 : (N.map plD).length + ((folF t rs l m q).map fun o : Op => plD o.1).length ≤ 16777216 := by rw [List.length_map, List.length_map]; omega
      have k : ∀ (S5 S8 S9 : Option Sl), lcS (seqI (callP m__law_steps (consL (vS 1) (consL (vS 2) (consL (vS 6) nilL))))) (nmB 11) yesT e__law_other_2 [11] [A, some (.dat (.lst (rs.map rowD))), some (.dat (TNp t l m)), E, PT, S5, some (.dat (plD q)), x7, S8, S9, x10, none] = some (.own (.lst ((folF t rs l m q).map fun o : Op => plD o.1)), [A, some (.dat (.lst (rs.map rowD))), some (.dat (TNp t l m)), E, PT, S5, some (.dat (plD q)), x7, S8, S9, x10, none]) := fun S5 S8 S9 => by
        have k := lcS_filt (fi := seqI (callP m__law_steps (consL (vS 1) (consL (vS 2) (consL (vS 6) nilL))))) (gb := nmB 11) (t := yesT) (f := e__law_other_2) (vs := [11]) (env := [A, some (.dat (.lst (rs.map rowD))), some (.dat (TNp t l m)), E, PT, S5, some (.dat (plD q)), x7, S8, S9, x10, none]) (env1 := [A, some (.dat (.lst (rs.map rowD))), some (.dat (TNp t l m)), E, PT, S5, some (.dat (plD q)), x7, S8, S9, x10, none])
          opD (fun _ => true) (fun o : Op => plD o.1) (os := folF t rs l m q) (by simp [hf]) (by omega) (by simp) (fun o ho => ⟨[A, some (.dat (.lst (rs.map rowD))), some (.dat (TNp t l m)), E, PT, S5, some (.dat (plD q)), x7, S8, S9, x10, some (.dat (opD o))], .dat (plD o.1), by simp, by simp, by simp [e__law_other_2, opD], rfl, by simp⟩)
        rw [List.filter_eq_self.mpr (fun _ _ => rfl)] at k
        exact k
      have e1 : (F ++ [(q, 10000000000000000000000000000000000000000)]).map opD = F.map opD ++ [.tup [plD q, .int 10000000000000000000000000000000000000000]] := by rw [List.map_append]; rfl
      have e2 : (N ++ (folF t rs l m q).map (fun o : Op => o.1)).map plD = N.map plD ++ (folF t rs l m q).map fun o : Op => plD o.1 := by rw [List.map_append, List.map_map]; rfl
      rw [e1, e2]
      unfold knD
      generalize ((F ++ [(q, 10000000000000000000000000000000000000000)] : Tf).map fun x => keyP x.1) = ks' at *
      generalize ((F ++ [(q, 10000000000000000000000000000000000000000)] : Tf).map fun _ => Z.D.bl true) = ds' at *
      generalize (F.map fun x => keyP x.1) = ks at *
      generalize (F.map fun _ => Z.D.bl true) = ds at *
      generalize (N ++ [q]).map plD = ND at *
      generalize N.map plD = N2 at *
      generalize (folF t rs l m q).map (fun o : Op => plD o.1) = FD at *
      generalize F.map opD = F2 at *
      simp only [plD] at k
      rcases hx6 with rfl | ⟨d, rfl⟩ <;> simp [-s_lcS, l__law_other_2, n1, n2, n3, plD, h1, h3, hl2, hl3, hl4, hp40, k]
    · refine ⟨?_, fun x hx => ?_⟩
      · unfold Kd
        rw [List.map_append]
        refine List.nodup_append.mpr ⟨hF.1, by simp, fun a ha b hb e => ?_⟩
        have : b = q := by simpa using hb
        rw [this] at e
        exact look_none_keys.mp hv (e ▸ ha)
      · rcases List.mem_append.mp hx with h | h
        · exact hF.2 x h
        · rw [List.mem_singleton.mp h]; exact hq
    · have hfl := fol_len (t := t) (l := l) (m := m) hlen (p := q)
      rw [List.length_append, List.length_map]; omega
    · intro p hp
      rcases List.mem_append.mp hp with h | h
      · exact .inl h
      · obtain ⟨o, ho, rfl⟩ := List.mem_map.mp h
        exact .inr (fol_in he hq.2 hq.1 ho)
end
end K77

set_option Elab.async false
set_option linter.all false
set_option maxRecDepth 100000
set_option maxHeartbeats 2000000
namespace K77
open PySem PySem.Spec PyProof.Rows L2 Z
section
variable {t : List (Option Int)} {rs : List (List Ed)} {l m : Nat}
theorem lo_loop (ht : t.length = rs.length) (he : EdOk rs) (hlen : ∀ i, (row rs i).length ≤ 1000) (hn : rs.length ≤ 400) (hm : m ≤ 12) {A E PT x7 : Option Sl} : ∀ (ds : List Z.D) (F : Tf) (N : List Pl) (x6 x10 : Option Sl), Scr x6 → Scr x10 → Rg rs.length m F → (∀ p ∈ N, p.1 ≤ rs.length ∧ p.2 ≤ m) → N.length + 1001 * ds.length ≤ 9000000 →
    ∃ (F' : Tf) (y6 y8 y9 y10 : Option Sl), forS (nmB 10) l__law_other_2 ds [A, some (.dat (.lst (rs.map rowD))), some (.dat (TNp t l m)), E, PT, some (.own (.lst (F.map opD))), x6, x7, some (.own (.lst (N.map plD))), some (.own (knD F)), x10, none] = some (.nx [A, some (.dat (.lst (rs.map rowD))), some (.dat (TNp t l m)), E, PT, some (.own (.lst (F'.map opD))), y6, x7, y8, y9, y10, none]) ∧ Rg rs.length m F'
  | [], F, N, x6, x10, h6, _, hF, hN, hl => ⟨F, _, _, _, _, rfl, hF⟩
  | d :: ds, F, N, x6, x10, h6, h10, hF, hN, hl => by
    rw [List.length_cons] at hl
    have pre : nmB 10 d [A, some (.dat (.lst (rs.map rowD))), some (.dat (TNp t l m)), E, PT, some (.own (.lst (F.map opD))), x6, x7, some (.own (.lst (N.map plD))), some (.own (knD F)), x10, none] = some [A, some (.dat (.lst (rs.map rowD))), some (.dat (TNp t l m)), E, PT, some (.own (.lst (F.map opD))), x6, x7, some (.own (.lst (N.map plD))), some (.own (knD F)), some (.dat d), none] := by
      rcases h10 with rfl | ⟨d', rfl⟩ <;> simp
    have hFl := hF.len
    have := sz_ok hn hm
    rcases List.eq_nil_or_concat N with e | ⟨N', q, e⟩
    · subst e
      refine ⟨F, x6, some (.own (.lst [])), some (.own (knD F)), some (.dat d), ?_, hF⟩
      have stp : l__law_other_2 [A, some (.dat (.lst (rs.map rowD))), some (.dat (TNp t l m)), E, PT, some (.own (.lst (F.map opD))), x6, x7, some (.own (.lst [])), some (.own (knD F)), some (.dat d), none] = some (.bk [A, some (.dat (.lst (rs.map rowD))), some (.dat (TNp t l m)), E, PT, some (.own (.lst (F.map opD))), x6, x7, some (.own (.lst [])), some (.own (knD F)), some (.dat d), none]) := by
        have n3 : truD (.lst []) = some false := rfl
        simp [l__law_other_2, n3]
      show (nmB 10 d _).bind _ = _
      rw [pre, Option.bind_some]
      simp only [List.map_nil]
      rw [stp, Option.bind_some]
    · rw [List.concat_eq_append] at e
      subst e
      rw [List.length_append, List.length_singleton] at hl
      obtain ⟨F', N2, k, hF', hl2, hN2⟩ := lo_2 (A := A) (E := E) (PT := PT) (x7 := x7) (x10 := some (.dat d)) (N := N') (l := l) ht he hlen h6 (hN q (List.mem_append_right _ List.mem_cons_self)) hF (by omega) (by omega)
      obtain ⟨F'', y6, y8, y9, y10, k2, hF''⟩ := lo_loop ht he hlen hn hm (A := A) (E := E) (PT := PT) (x7 := x7) ds F' N2 (some (.dat (plD q))) (some (.dat d)) Scr.dat Scr.dat hF' (fun p hp => (hN2 p hp).elim (fun z => hN p (List.mem_append_left _ z)) id) (by omega)
      refine ⟨F'', y6, y8, y9, y10, ?_, hF''⟩
      show (nmB 10 d _).bind _ = _
      rw [pre, Option.bind_some, k, Option.bind_some]
      exact k2
theorem other_ok {o : OC} {X : Tf} (ht : t.length = rs.length) (he : EdOk rs) (hlen : ∀ i, (row rs i).length ≤ 1000) (hn : rs.length ≤ 400) (hm : m ≤ 12) (P : PoolOk o) (hX : Rg rs.length m X) (hl : X.length ≤ 4900) :
    ∃ (Y : Tf) (o' : OC), m__law_other o [.lst (rs.map rowD), TNp t l m, .lst (X.map opD)] = some (.own (.lst (Y.map opD)), o') ∧ Rg rs.length m Y ∧ PoolOk o' := by
  obtain ⟨k, o1, q1, a1, b1, P1⟩ := take_ok (m := 9) P (by decide) (by decide)
  obtain ⟨k2, o2, q2, a2, b2, P2⟩ := take_ok (m := (rs.length : Int) + 1) P1 (by omega) (by omega)
  obtain ⟨k3, o3, q3, a3, b3, P3⟩ := take_ok (m := (m : Int) + 1) P2 (by omega) (by omega)
  obtain ⟨k2, rfl⟩ : ∃ j : Nat, k2 = (j : Int) := ⟨k2.toNat, by omega⟩
  obtain ⟨k3, rfl⟩ : ∃ j : Nat, k3 = (j : Int) := ⟨k3.toNat, by omega⟩
  have hmul : ∀ i : Int, okMul i (1 + k) = true := fun i => okMul_r (by omega)
  have hdiv : okDiv 9 = true := okDiv_of (by decide) (by decide)
  have kc : lcS (seqI (vS 3)) (tupB 2 (consB (nmB 6) (consB (nmB 7) nilB))) yesT e__law_other_1 [6, 7] [some (.par o1), some (.dat (.lst (rs.map rowD))), some (.dat (TNp t l m)), some (.dat (.lst (X.map opD))), some (.dat (.int (1 + k))), none, none, none, none, none, none, none] =
      some (.own (.lst ((X.map fun x : Pl × Int => (x.1, x.2 * (1 + k) / 9)).map opD)), [some (.par o1), some (.dat (.lst (rs.map rowD))), some (.dat (TNp t l m)), some (.dat (.lst (X.map opD))), some (.dat (.int (1 + k))), none, none, none, none, none, none, none]) := by
    have k := lcS_filt (fi := seqI (vS 3)) (gb := tupB 2 (consB (nmB 6) (consB (nmB 7) nilB))) (t := yesT) (f := e__law_other_1) (vs := [6, 7]) (env := [some (.par o1), some (.dat (.lst (rs.map rowD))), some (.dat (TNp t l m)), some (.dat (.lst (X.map opD))), some (.dat (.int (1 + k))), none, none, none, none, none, none, none]) (env1 := [some (.par o1), some (.dat (.lst (rs.map rowD))), some (.dat (TNp t l m)), some (.dat (.lst (X.map opD))), some (.dat (.int (1 + k))), none, none, none, none, none, none, none])
      opD (fun _ => true) (fun x : Pl × Int => opD (x.1, x.2 * (1 + k) / 9)) (os := X) (by simp) (by omega) (by simp) (fun x hx => ⟨[some (.par o1), some (.dat (.lst (rs.map rowD))), some (.dat (TNp t l m)), some (.dat (.lst (X.map opD))), some (.dat (.int (1 + k))), none, some (.dat (plD x.1)), some (.dat (.int x.2)), none, none, none, none], .dat (opD (x.1, x.2 * (1 + k) / 9)), by simp [opD], by simp, by simp [e__law_other_1, opD, hmul, hdiv], rfl, by simp⟩)
    rw [List.filter_eq_self.mpr (fun _ _ => rfl)] at k
    rw [k, List.map_map]; rfl
  obtain ⟨y6, y7, c1, c2, c3⟩ := lo_1 (A := some (.par o3)) (B := some (.dat (.lst (rs.map rowD)))) (C := some (.dat (TNp t l m))) (E := some (.dat (.lst (X.map opD)))) (PT := some (.dat (.int (1 + k)))) (G := some (.own (.lst ((X.map fun x : Pl × Int => (x.1, x.2 * (1 + k) / 9)).map opD)))) (N := some (.own (.lst [plD (k2, k3)]))) (x10 := none) (x11 := none) X [] none none hX.1 hl (.inl rfl) (.inl rfl)
  have e1 : knD X = knD (X.map fun x : Pl × Int => (x.1, x.2 * (1 + k) / 9)) := by unfold knD; rw [List.map_map, List.map_map]; rfl
  have hX2 : Rg rs.length m (X.map fun x : Pl × Int => (x.1, x.2 * (1 + k) / 9)) := hX.sub (by rw [List.map_map]; exact List.Sublist.refl _)
  rw [List.nil_append, e1] at c1
  obtain ⟨F', z6, z8, z9, z10, d1, d2⟩ := lo_loop (l := l) ht he hlen hn hm (A := some (.par o3)) (E := some (.dat (.lst (X.map opD)))) (PT := some (.dat (.int (1 + k)))) (x7 := y7) (rngD 0 8000) (X.map fun x : Pl × Int => (x.1, x.2 * (1 + k) / 9)) [(k2, k3)] y6 none c2 (.inl rfl) hX2 (fun p hp => by rw [List.mem_singleton.mp hp]; exact ⟨by show k2 ≤ rs.length; omega, by show k3 ≤ m; omega⟩) (by rw [rngD_length]; simp)
  refine ⟨F', o3, ?_, d2, P3⟩
  have hk0 : knD [] = .dct [] [] := rfl
  have hpl : [(k2, k3)].map plD = [plD (k2, k3)] := rfl
  have hpl2 : plD (k2, k3) = .tup [.int (k2 : Int), .int (k3 : Int)] := rfl
  rw [hk0] at c1
  rw [hpl] at d1
  rw [hpl2] at c1 d1
  generalize (X.map fun x : Pl × Int => (x.1, x.2 * (1 + k) / 9)).map opD = X2 at *
  generalize knD (X.map fun x : Pl × Int => (x.1, x.2 * (1 + k) / 9)) = KN at *
  generalize hLN : (rs.map rowD) = LN at *
  have hLl : (LN.length : Int) = (rs.length : Int) := by rw [← hLN, List.length_map]
  generalize X.map opD = XD at *
  generalize F'.map opD = FD at *
  generalize hR : rngD 0 8000 = R8 at *
  simp only [TNp] at kc c1 d1 ⊢
  rw [← hLl] at q2
  simp [-s_lcS, m__law_other, b__law_other, q1, kc, q2, q3, c1, hR, d1]
end
end K77

set_option Elab.async false
set_option linter.all false
set_option maxRecDepth 100000
set_option maxHeartbeats 2000000
namespace K77
open PySem PySem.Spec PyProof.Rows L2 Z
theorem whole_non : m_is_whole [.non] = some (.dat (.bl false)) := by simp [m_is_whole, b_is_whole, kindD, okTy, isTy]
theorem whole_bl {b : Bool} : m_is_whole [.bl b] = some (.dat (.bl false)) := by simp [m_is_whole, b_is_whole, kindD, okTy, isTy]
theorem whole_str {s : Str} : m_is_whole [.str s] = some (.dat (.bl false)) := by simp [m_is_whole, b_is_whole, kindD, okTy, isTy]
theorem whole_tup {ds : List Z.D} : m_is_whole [.tup ds] = some (.dat (.bl false)) := by simp [m_is_whole, b_is_whole, kindD, okTy, isTy]
theorem number_hi {i m : Int} (h : 0 ≤ i) (h2 : ¬ i < m) : m_is_number [.int i, .int m] = some (.dat (.bl false)) := by simp [m_is_number, b_is_number, whole_int, h, h2]
theorem number_lo {i m : Int} (h : ¬ 0 ≤ i) : m_is_number [.int i, .int m] = some (.dat (.bl false)) := by simp [m_is_number, b_is_number, whole_int, h]
theorem number_non {m : Z.D} : m_is_number [.non, m] = some (.dat (.bl false)) := by simp [m_is_number, b_is_number, whole_non]
theorem number_bl {b : Bool} {m : Z.D} : m_is_number [.bl b, m] = some (.dat (.bl false)) := by simp [m_is_number, b_is_number, whole_bl]
def cntK (X : List Op) : Nat := (X.foldl (fun a o => insK a (kI o.1)) []).length
theorem insK_mem {acc : List (List Int)} {k : List Int} (h : k ∈ acc) : insK acc k = acc := by unfold insK; exact if_pos h
theorem cntK_dup {X : List Op} {x : Op} (hx : x ∈ X) : cntK (X ++ [x]) ≤ X.length := by
  have hm := ins_mem X [] (kI x.1) (.inr ⟨x, hx, rfl⟩)
  have hle := ins_len X []
  rw [List.length_nil, Nat.zero_add] at hle
  have e : (X ++ [x]).foldl (fun a o => insK a (kI o.1)) [] = X.foldl (fun a o => insK a (kI o.1)) [] := by
    rw [List.foldl_append]
    exact insK_mem hm
  unfold cntK
  rw [e]
  exact hle
section
variable {lines : Z.D} {t : List (Option Int)} {rs : List (List Ed)} {l m : Nat} {b : Bool}
/-- no row -/
def BadP (lines : Z.D) (b : Bool) (t : List (Option Int)) (rs : List (List Ed)) (l m : Nat) (d : Z.D) : Prop := ∀ A x3 : Option Sl, ∃ e2, l_are_priced_1 [some (.dat (pgD lines b t rs l m)), A, some (.dat d), x3] = some (.rt (.dat (.bl false)) e2)
theorem bad_1 {ds : List Z.D} : BadP lines b t rs l m (.lst ds) := fun A x3 => ⟨[some (.dat (pgD lines b t rs l m)), A, some (.dat (.lst ds)), x3], by simp [-s_fldD, l_are_priced_1, kindD, okTy, isTy]⟩
theorem bad_2 {d : Z.D} : BadP lines b t rs l m (.tup [d]) := fun A x3 => ⟨[some (.dat (pgD lines b t rs l m)), A, some (.dat (.tup [d])), x3], by simp [-s_fldD, l_are_priced_1, kindD, okTy, isTy]⟩
theorem bad_3 {d : Z.D} : BadP lines b t rs l m (.tup [d, .non]) := fun A x3 => ⟨[some (.dat (pgD lines b t rs l m)), A, some (.dat (.tup [d, .non])), x3], by simp [-s_fldD, l_are_priced_1, kindD, okTy, isTy, whole_non]⟩
theorem bad_4 {d : Z.D} {c : Bool} : BadP lines b t rs l m (.tup [d, .bl c]) := fun A x3 => ⟨[some (.dat (pgD lines b t rs l m)), A, some (.dat (.tup [d, .bl c])), x3], by simp [-s_fldD, l_are_priced_1, kindD, okTy, isTy, whole_bl]⟩
theorem bad_5 {ds : List Z.D} {s : Int} : BadP lines b t rs l m (.tup [.lst ds, .int s]) := fun A x3 => by
  have q0 := whole_int (i := s)
  by_cases c : s < 0
  · exact ⟨[some (.dat (pgD lines b t rs l m)), A, some (.dat (.tup [.lst ds, .int s])), x3], by simp [-s_fldD, l_are_priced_1, kindD, okTy, isTy, q0, c]⟩
  · exact ⟨[some (.dat (pgD lines b t rs l m)), A, some (.dat (.tup [.lst ds, .int s])), some (.dat (.lst ds))], by simp [-s_fldD, l_are_priced_1, kindD, okTy, isTy, q0, c]⟩
theorem bad_6 {i s : Int} : BadP lines b t rs l m (.tup [.int i, .int s]) := fun A x3 => by
  have q0 := whole_int (i := s)
  by_cases c : s < 0
  · exact ⟨[some (.dat (pgD lines b t rs l m)), A, some (.dat (.tup [.int i, .int s])), x3], by simp [-s_fldD, l_are_priced_1, kindD, okTy, isTy, q0, c]⟩
  · exact ⟨[some (.dat (pgD lines b t rs l m)), A, some (.dat (.tup [.int i, .int s])), some (.dat (.int i))], by simp [-s_fldD, l_are_priced_1, kindD, okTy, isTy, q0, c]⟩
theorem bad_7 : BadP lines b t rs l m .non := fun A x3 => ⟨[some (.dat (pgD lines b t rs l m)), A, some (.dat .non), x3], by simp [-s_fldD, l_are_priced_1, kindD, okTy, isTy]⟩
theorem bad_8 {d e f : Z.D} : BadP lines b t rs l m (.tup [d, e, f]) := fun A x3 => ⟨[some (.dat (pgD lines b t rs l m)), A, some (.dat (.tup [d, e, f])), x3], by simp [-s_fldD, l_are_priced_1, kindD, okTy, isTy]⟩
theorem bad_9 {d e : Z.D} {s : Int} (h : m_is_number [d, .int ((rs.length : Int) + 1)] = some (.dat (.bl false)) ∨ (m_is_number [d, .int ((rs.length : Int) + 1)] = some (.dat (.bl true)) ∧ m_is_number [e, .int ((m : Int) + 1)] = some (.dat (.bl false)))) : BadP lines b t rs l m (.tup [.tup [d, e], .int s]) := fun A x3 => by
  have q0 := whole_int (i := s)
  by_cases c : s < 0
  · exact ⟨[some (.dat (pgD lines b t rs l m)), A, some (.dat (.tup [.tup [d, e], .int s])), x3], by simp [-s_fldD, l_are_priced_1, kindD, okTy, isTy, q0, c]⟩
  · rcases h with h | ⟨h, h2⟩
    · exact ⟨[some (.dat (pgD lines b t rs l m)), A, some (.dat (.tup [.tup [d, e], .int s])), some (.dat (.tup [d, e]))], by simp [-s_fldD, l_are_priced_1, kindD, okTy, isTy, q0, c, h]⟩
    · exact ⟨[some (.dat (pgD lines b t rs l m)), A, some (.dat (.tup [.tup [d, e], .int s])), some (.dat (.tup [d, e]))], by simp [-s_fldD, l_are_priced_1, kindD, okTy, isTy, q0, c, h, h2]⟩
/-- told is refused -/
def UnP (lines : Z.D) (b : Bool) (t : List (Option Int)) (rs : List (List Ed)) (l m : Nat) (d : Z.D) : Prop := m_are_priced [pgD lines b t rs l m, d] = some (.dat (.bl false))
theorem un_lst {ds : List Z.D} : UnP lines b t rs l m (.lst ds) := by unfold UnP; simp [m_are_priced, b_are_priced, kindD, okTy, isTy]
theorem un_non : UnP lines b t rs l m .non := by unfold UnP; simp [m_are_priced, b_are_priced, kindD, okTy, isTy]
theorem un_str {s : Str} : UnP lines b t rs l m (.str s) := by unfold UnP; simp [m_are_priced, b_are_priced, kindD, okTy, isTy]
theorem un_int {i : Int} : UnP lines b t rs l m (.int i) := by unfold UnP; simp [m_are_priced, b_are_priced, kindD, okTy, isTy]
theorem un_dup {X : Tf} {x : Op} (hX : ∀ o ∈ X, o.1.1 ≤ rs.length ∧ o.1.2 ≤ m) (hx : x ∈ X) (hl : X.length < 4900) : UnP lines b t rs l m (.tup ((X ++ [x]).map opD)) := by
  have k : m_are_priced [pgD lines b t rs l m, .tup ((X ++ [x]).map opD)] = some (.dat (.bl ((X ++ [x]).all (fun o => decide (0 ≤ o.2)) && decide (cntK (X ++ [x]) = (X ++ [x]).length)))) := pr_go (lines := lines) (b := b) (t := t) (rs := rs) (l := l) (m := m) (pl := false) (X := X ++ [x]) (fun o ho => (List.mem_append.mp ho).elim (hX o) fun z => by rw [List.mem_singleton.mp z]; exact hX x hx) (by simp; omega)
  have h1 := cntK_dup hx
  have h2 : (X ++ [x]).length = X.length + 1 := by simp
  have h3 : decide (cntK (X ++ [x]) = (X ++ [x]).length) = false := decide_eq_false (fun z => by rw [h2] at z; omega)
  unfold UnP
  rw [k, h3, Bool.and_false]
theorem un_bad {X : Tf} {d : Z.D} {rest : List Z.D} (hX : ∀ o ∈ X, o.1.1 ≤ rs.length ∧ o.1.2 ≤ m) (hd : BadP lines b t rs l m d) : UnP lines b t rs l m (.tup (X.map opD ++ d :: rest)) := by
  obtain ⟨k1, k2⟩ := forS_chk (b := nmB 2) (f := l_are_priced_1) opD (fun o => decide (0 ≤ o.2)) (fun env => ∃ y2 y3, env = [some (.dat (pgD lines b t rs l m)), some (.dat (.tup (X.map opD ++ d :: rest))), y2, y3] ∧ Scr y2) X [some (.dat (pgD lines b t rs l m)), some (.dat (.tup (X.map opD ++ d :: rest))), none, none]
    (by
      rintro o ho env ⟨y2, y3, rfl, hs⟩
      obtain ⟨g1, g2⟩ := ap_good (lines := lines) (b := b) (t := t) (l := l) (hX o ho) (A := some (.dat (.tup (X.map opD ++ d :: rest)))) (x3 := y3)
      refine ⟨[some (.dat (pgD lines b t rs l m)), some (.dat (.tup (X.map opD ++ d :: rest))), some (.dat (opD o)), y3], by rcases hs with rfl | ⟨d', rfl⟩ <;> simp, fun h => ?_, g2⟩
      unfold l_are_priced_1 at g1
      by_cases c : decide (0 ≤ o.2) = true
      · have q0 := whole_int (i := o.2)
        have q1 := number_ok (i := (o.1.1 : Int)) (m := (rs.length : Int) + 1) (by omega) (by have := hX o ho; omega)
        have q2 := number_ok (i := (o.1.2 : Int)) (m := (m : Int) + 1) (by omega) (by have := hX o ho; omega)
        have c' : ¬ o.2 < 0 := by have := of_decide_eq_true c; omega
        refine ⟨[some (.dat (pgD lines b t rs l m)), some (.dat (.tup (X.map opD ++ d :: rest))), some (.dat (opD o)), some (.dat (plD o.1))], ?_, _, _, rfl, Scr.dat⟩
        simp [-s_fldD, l_are_priced_1, opD, plD, kindD, okTy, isTy, q0, q1, q2, c']
      · exact absurd h c) ⟨none, none, rfl, .inl rfl⟩ (d :: rest)
  have ik : isiG [.tup (X.map opD ++ d :: rest), .ty "tuple"] = some (.dat (.bl true)) := by simp [kindD, okTy, isTy]
  have ii : itemsOf (.tup (X.map opD ++ d :: rest)) = some (X.map opD ++ d :: rest) := rfl
  unfold UnP
  have fin : ∀ e2, forS (nmB 2) l_are_priced_1 (X.map opD ++ d :: rest) [some (.dat (pgD lines b t rs l m)), some (.dat (.tup (X.map opD ++ d :: rest))), none, none] = some (.rt (.dat (.bl false)) e2) → m_are_priced [pgD lines b t rs l m, .tup (X.map opD ++ d :: rest)] = some (.dat (.bl false)) := fun e2 k => by
    generalize X.map opD ++ d :: rest = XD at *
    generalize pgD lines b t rs l m = PG at *
    simp [m_are_priced, b_are_priced, ik, ii, k]
  cases ha : X.all (fun o => decide (0 ≤ o.2)) with
  | false =>
    obtain ⟨e2, k⟩ := k2 ha
    exact fin e2 k
  | true =>
    obtain ⟨env', k, y2, y3, rfl, hs⟩ := k1 ha
    obtain ⟨e2, k3⟩ := hd (some (.dat (.tup (X.map opD ++ d :: rest)))) y3
    refine fin e2 (k.trans ?_)
    have pre : nmB 2 d [some (.dat (pgD lines b t rs l m)), some (.dat (.tup (X.map opD ++ d :: rest))), y2, y3] = some [some (.dat (pgD lines b t rs l m)), some (.dat (.tup (X.map opD ++ d :: rest))), some (.dat d), y3] := by rcases hs with rfl | ⟨d', rfl⟩ <;> simp
    show (nmB 2 d _).bind _ = _
    rw [pre, Option.bind_some, k3, Option.bind_some]
end
end K77

set_option Elab.async false
set_option linter.all false
set_option maxRecDepth 100000
set_option maxHeartbeats 4000000
namespace K77
open PySem PySem.Spec PyProof.Rows L2 Z
section
variable {lines : Z.D} {t : List (Option Int)} {rs : List (List Ed)} {l m : Nat} {b : Bool}
def bad8 (p : Pl) (s : Int) : List Z.D := [.lst [plD p, .int s], .tup [plD p], .tup [plD p, .non], .tup [plD p, .bl true], .tup [.lst [.int (p.1 : Int), .int (p.2 : Int)], .int s], .tup [.int (p.1 : Int), .int s], .non, .tup [plD p, .int s, .int 0]]
def bad4 (n m : Nat) (p : Pl) (s : Int) : List Z.D := [.tup [.tup [.int ((n : Int) + 1), .int 0], .int s], .tup [.tup [.int (p.1 : Int), .int ((m : Int) + 1)], .int s], .tup [.tup [.int (-1), .int 0], .int s], .tup [.tup [.int (p.1 : Int), .non], .int s]]
def badX (p : Pl) (s : Int) : Z.D := .tup [.tup [.int (p.1 : Int), .bl (decide ((p.2 : Int) = 1))], .int s]
def badL (n m : Nat) (p : Pl) (s : Int) : List Z.D := bad8 p s ++ bad4 n m p s ++ if p.2 < 2 then [badX p s, badX p s, badX p s, badX p s] else []
theorem badL_ok {p : Pl} {s : Int} (hp : p.1 ≤ rs.length ∧ p.2 ≤ m) : ∀ d ∈ badL rs.length m p s, BadP lines b t rs l m d := by
  intro d hd
  have q1 := number_ok (i := (p.1 : Int)) (m := (rs.length : Int) + 1) (by omega) (by omega)
  have q2 := number_hi (i := (rs.length : Int) + 1) (m := (rs.length : Int) + 1) (by omega) (by omega)
  have q3 := number_hi (i := (m : Int) + 1) (m := (m : Int) + 1) (by omega) (by omega)
  have q4 := number_lo (i := (-1 : Int)) (m := (rs.length : Int) + 1) (by omega)
  unfold badL at hd
  rcases List.mem_append.mp hd with hd | hd
  · rcases List.mem_append.mp hd with hd | hd
    · unfold bad8 at hd
      simp only [List.mem_cons, List.mem_nil_iff, or_false] at hd
      rcases hd with rfl | rfl | rfl | rfl | rfl | rfl | rfl | rfl
      · exact bad_1
      · exact bad_2
      · exact bad_3
      · exact bad_4
      · exact bad_5
      · exact bad_6
      · exact bad_7
      · exact bad_8
    · unfold bad4 at hd
      simp only [List.mem_cons, List.mem_nil_iff, or_false] at hd
      rcases hd with rfl | rfl | rfl | rfl
      · exact bad_9 (.inl q2)
      · exact bad_9 (.inr ⟨q1, q3⟩)
      · exact bad_9 (.inl q4)
      · exact bad_9 (.inr ⟨q1, number_non⟩)
  · have : d = badX p s := by
      split at hd
      · simp only [List.mem_cons, List.mem_nil_iff, or_false] at hd
        rcases hd with rfl | rfl | rfl | rfl <;> rfl
      · cases hd
    subst this
    exact bad_9 (.inr ⟨q1, number_bl⟩)
theorem hm4 (d : Z.D) : mulG (.lst [d]) (.int 4) = some (.own (.lst [d, d, d, d])) := by
  unfold mulG
  dsimp only
  rw [if_pos ⟨by decide, by show 1 * 4 ≤ 16777216; decide⟩]; rfl
theorem mis_ok {o : OC} {X : Tf} (P : PoolOk o) (hX : ∀ o ∈ X, o.1.1 ≤ rs.length ∧ o.1.2 ≤ m) (h1 : 1 ≤ X.length) (hl : X.length < 4900) :
    ∃ (d : Z.D) (o' : OC), m__law_misshapen o [.lst (X.map opD), .int (rs.length : Int), .int (m : Int)] = some (.dat d, o') ∧ (UnP lines b t rs l m d ∨ d = .ptup []) ∧ PoolOk o' := by
  obtain ⟨k, o1, q1, a1, b1, P1⟩ := take_ok (m := (X.length : Int)) P (by omega) (by omega)
  obtain ⟨k, rfl⟩ : ∃ j : Nat, k = (j : Int) := ⟨k.toNat, by omega⟩
  have hk : k < X.length := by omega
  have hx : atI (X.map opD) (k : Int) = some (opD X[k]) := at_nat (by rw [List.getElem?_map, List.getElem?_eq_getElem hk]; rfl)
  have hmem : X[k] ∈ X := List.getElem_mem hk
  have hr := hX _ hmem
  have e1 : Z.cutD (X.map opD) none (some (k : Int)) = (X.take k).map opD := by rw [cut_map, cut_to (by omega)]
  have e2 : Z.cutD (X.map opD) (some ((k : Int) + 1)) none = (X.drop (k + 1)).map opD := by rw [cut_map, show ((k : Int) + 1) = ((k + 1 : Nat) : Int) from rfl, cut_from (by omega)]
  have hbne : badL rs.length m X[k].1 X[k].2 ≠ [] := by unfold badL bad8; simp
  have hbl : (badL rs.length m X[k].1 X[k].2).length < 2 ^ 62 := by unfold badL bad8 bad4; split <;> simp
  obtain ⟨d, o2, q2, hd, P2⟩ := pick_ok P1 hbne hbl
  have hbad := badL_ok (lines := lines) (b := b) (t := t) (rs := rs) (l := l) (m := m) (s := X[k].2) hr d hd
  obtain ⟨W, hW⟩ : ∃ W : Z.D, W = .tup ((X.take k).map opD ++ d :: (X.drop (k + 1)).map opD) := ⟨_, rfl⟩
  obtain ⟨V, hV⟩ : ∃ V : Z.D, V = .tup ((X ++ [X[k]]).map opD) := ⟨_, rfl⟩
  obtain ⟨r, o3, q3, hr3, P3⟩ := pick_ok (ds := [W, W, W, V, .lst (X.map opD), .non, .str "told", .int 0, .ptup []]) P2 (by simp) (by simp)
  refine ⟨r, o3, ?_, ?_, P3⟩
  · have pre : ∀ st : Fs, (seqS (asgS 4 (callM (m__law_take 2) 0 (consL (vS 0) (consL (cbS lenG (consL (vS 1) nilL)) nilL))))
    (seqS (asgT (tupB 2 (consB (nmB 5) (consB (nmB 6) nilB))) (bin2 ixG (vS 1) (vS 4)))
    (seqS (asgS 7 (lstS (consL (lstS (consL (vS 5) (consL (vS 6) nilL))) (consL (tupS (consL (vS 5) nilL)) (consL (tupS (consL (vS 5) (consL (cS .non) nilL))) (consL (tupS (consL (vS 5) (consL (cS (.bl true)) nilL))) (consL (tupS (consL (cbS listG (consL (vS 5) nilL)) (consL (vS 6) nilL))) (consL (tupS (consL (bin2 ixG (vS 5) (cS (.int 0))) (consL (vS 6) nilL))) (consL (cS .non) (consL (tupS (consL (vS 5) (consL (vS 6) (consL (cS (.int 0)) nilL)))) nilL))))))))))
    (seqS (asgS 7 (bin2 addG (vS 7) (lstS (consL (tupS (consL (tupS (consL (bin2 addG (vS 2) (cS (.int 1))) (consL (cS (.int 0)) nilL))) (consL (vS 6) nilL))) (consL (tupS (consL (tupS (consL (bin2 ixG (vS 5) (cS (.int 0))) (consL (bin2 addG (vS 3) (cS (.int 1))) nilL))) (consL (vS 6) nilL))) (consL (tupS (consL (tupS (consL (un1 negG (cS (.int 1))) (consL (cS (.int 0)) nilL))) (consL (vS 6) nilL))) (consL (tupS (consL (tupS (consL (bin2 ixG (vS 5) (cS (.int 0))) (consL (cS .non) nilL))) (consL (vS 6) nilL))) nilL)))))))
    (seqS (iffS (cmpT lt3G (bin2 ixG (vS 5) (cS (.int 1))) (cS (.int 2))) (asgS 7 (bin2 addG (vS 7) (bin2 mulG (lstS (consL (tupS (consL (tupS (consL (bin2 ixG (vS 5) (cS (.int 0))) (consL (bin2 (bRes eqG) (bin2 ixG (vS 5) (cS (.int 1))) (cS (.int 1))) nilL))) (consL (vS 6) nilL))) nilL)) (cS (.int 4))))) doneS) st)))))
      [some (.par o), some (.dat (.lst (X.map opD))), some (.dat (.int (rs.length : Int))), some (.dat (.int (m : Int))), none, none, none, none, none] =
      st [some (.par o1), some (.dat (.lst (X.map opD))), some (.dat (.int (rs.length : Int))), some (.dat (.int (m : Int))), some (.dat (.int (k : Int))), some (.dat (plD X[k].1)), some (.dat (.int X[k].2)), some (.own (.lst (badL rs.length m X[k].1 X[k].2))), none] := fun st => by
      unfold badL bad8 bad4 badX
      by_cases c : X[k].1.2 < 2
      · have c' : (X[k].1.2 : Int) < 2 := by omega
        rw [if_pos c]
        simp [-s_mulL, hm4, q1, hx, opD, plD, c']
      · have c' : ¬ (X[k].1.2 : Int) < 2 := by omega
        rw [if_neg c]
        simp [-s_mulL, hm4, q1, hx, opD, plD, c']
    have g1 : ((X.take k).map opD).length + 1 ≤ 16777216 := by simp; omega
    have g3 : ((X.take k).map opD).length + 1 + ((X.drop (k + 1)).map opD).length ≤ 16777216 := by simp; omega
    have g5 : (X.map opD).length + 1 ≤ 16777216 := by simp; omega
    show (b__law_misshapen [some (.par o), some (.dat (.lst (X.map opD))), some (.dat (.int (rs.length : Int))), some (.dat (.int (m : Int))), none, none, none, none, none]).bind fin2 = _
    unfold b__law_misshapen
    rw [pre]
    have hV2 : V = .tup (X.map opD ++ [opD X[k]]) := by rw [hV, List.map_append]; rfl
    rw [hW, hV2] at q3
    generalize badL rs.length m X[k].1 X[k].2 = BL at *
    generalize (X.take k).map opD = TK at *
    generalize (X.drop (k + 1)).map opD = DR at *
    generalize X.map opD = XD at *
    simp [q2, e1, e2, hx, g1, g3, g5, q3]
  · simp only [List.mem_cons, List.mem_nil_iff, or_false] at hr3
    have w1 : UnP lines b t rs l m W := by
      rw [hW]
      exact un_bad (fun o ho => hX o (List.mem_of_mem_take ho)) hbad
    rcases hr3 with rfl | rfl | rfl | rfl | rfl | rfl | rfl | rfl | rfl
    · exact .inl w1
    · exact .inl w1
    · exact .inl w1
    · rw [hV]; exact .inl (un_dup hX hmem hl)
    · exact .inl un_lst
    · exact .inl un_non
    · exact .inl un_str
    · exact .inl un_int
    · exact .inr rfl
end
end K77

set_option Elab.async false
set_option linter.all false
set_option maxRecDepth 100000
set_option maxHeartbeats 1000000
namespace K77
open PySem PySem.Spec PyProof.Rows L2 Z
/-! ### same -/
theorem same_int {n : Nat} {a : Int} : m__law_same (n + 1) [.int a, .int a] = some (.dat (.bl true)) := by
  have h : m__law_is_integer [.int a] = some (.dat (.bl true)) := by simp [m__law_is_integer, b__law_is_integer, kindD, okTy, isTy]
  unfold m__law_same
  simp [b__law_same, kindD, okTy, isTy, h]
theorem same_non {n : Nat} : m__law_same (n + 1) [.non, .non] = some (.dat (.bl true)) := by
  unfold m__law_same
  simp [b__law_same, kindD, okTy, isTy]
theorem same_tup {n : Nat} {ds : List Z.D} (hl : ds.length ≤ 100000) (h : ∀ d ∈ ds, m__law_same n [d, d] = some (.dat (.bl true))) : m__law_same (n + 1) [.tup ds, .tup ds] = some (.dat (.bl true)) := by
  have g : ds.length < 2305843009213693952 := by omega
  have key := lcS_map (fi := rngI1 (consL (cbS lenG (consL (vS 1) nilL)) nilL)) (i := 2) (f := e__law_same_1 (m__law_same n)) (env := [some (.dat (.tup ds)), some (.dat (.tup ds)), none]) (env1 := [some (.dat (.tup ds)), some (.dat (.tup ds)), none]) (ds := (List.range ds.length).map nD) (fun _ => .bl true) (by simp [g, rng0]) (by simp; omega) (.inl rfl) (by
    intro d hd
    obtain ⟨k, hk, rfl⟩ := List.mem_map.mp hd
    have hk := List.mem_range.mp hk
    have ha : atI ds (k : Int) = some ds[k] := at_nat (List.getElem?_eq_getElem hk)
    have hs := h ds[k] (List.getElem_mem _)
    exact ⟨.dat (.bl true), by simp [e__law_same_1, nD, ha, hs], rfl⟩)
  have hb : blsOf ((List.range ds.length).map ((fun _ => Z.D.bl true) ∘ nD)) = some ((List.range ds.length).map fun _ => true) := by
    have := blsOf_map ((List.range ds.length).map fun _ => true)
    rw [List.map_map] at this
    exact this
  unfold m__law_same
  rw [s_runP]
  show Option.bind (b__law_same (m__law_same n) [some (.dat (.tup ds)), some (.dat (.tup ds)), none]) fin = _
  unfold b__law_same
  simp [-s_lcS, kindD, okTy, isTy, key, hb]
theorem same_bl {n : Nat} {c : Bool} : m__law_same (n + 1) [.bl c, .bl c] = some (.dat (.bl true)) := by
  unfold m__law_same
  simp [b__law_same, kindD, okTy, isTy]
theorem same_rows {X : Tf} (hl : X.length ≤ 100000) : m__law_same 6 [.tup (X.map opD), .tup (X.map opD)] = some (.dat (.bl true)) := by
  refine same_tup (by rw [List.length_map]; exact hl) fun d hd => ?_
  obtain ⟨x, _, rfl⟩ := List.mem_map.mp hd
  refine same_tup (by show 2 ≤ 100000; omega) fun d hd => ?_
  simp only [List.mem_cons, List.mem_nil_iff, or_false] at hd
  rcases hd with rfl | rfl
  · refine same_tup (by show 2 ≤ 100000; omega) fun d hd => ?_
    simp only [List.mem_cons, List.mem_nil_iff, or_false] at hd
    rcases hd with rfl | rfl <;> exact same_int
  · exact same_int
theorem rowGo_mem {S : List T3} {R : Int} {many i : Nat} {e : Ed} : ∀ {js : List Nat}, e ∈ rowGo S R many i js → ∃ j ∈ js, e.1 = (j : Int)
  | [], h => nomatch h
  | j :: js, h => by
    unfold rowGo at h
    split at h
    · cases h
    · split at h
      · obtain ⟨k, h1, h2⟩ := rowGo_mem h; exact ⟨k, List.mem_cons_of_mem _ h1, h2⟩
      · rcases List.mem_cons.mp h with e | e
        · exact ⟨j, List.mem_cons_self .., by rw [e]⟩
        · obtain ⟨k, h1, h2⟩ := rowGo_mem e; exact ⟨k, List.mem_cons_of_mem _ h1, h2⟩
theorem rowGo_len {S : List T3} {R : Int} {many i : Nat} : ∀ {js : List Nat}, (rowGo S R many i js).length ≤ js.length
  | [] => Nat.le_refl _
  | j :: js => by
    have ih := rowGo_len (S := S) (R := R) (many := many) (i := i) (js := js)
    unfold rowGo
    split
    · exact Nat.zero_le _
    · split
      · rw [List.length_cons]; omega
      · rw [List.length_cons, List.length_cons]; omega
theorem rowGo_asc {S : List T3} {R : Int} {many i : Nat} : ∀ {js : List Nat}, js.Pairwise (· < ·) → (rowGo S R many i js).Pairwise fun a b => a.1 < b.1
  | [], _ => List.Pairwise.nil
  | j :: js, h => by
    obtain ⟨h1, h2⟩ := List.pairwise_cons.mp h
    have ih := rowGo_asc (S := S) (R := R) (many := many) (i := i) h2
    unfold rowGo
    split
    · exact List.Pairwise.nil
    · split
      · exact ih
      · refine List.pairwise_cons.mpr ⟨fun e he => ?_, ih⟩
        obtain ⟨k, h3, h4⟩ := rowGo_mem he
        have := h1 k h3
        show (j : Int) < e.1
        omega
theorem rowsF_len {S : List T3} {R : Int} {many : Nat} : (rowsF S R many).length = many := by unfold rowsF; simp
theorem rowsF_row {S : List T3} {R : Int} {many i : Nat} (h : i < many) : row (rowsF S R many) i = rowF S R many i := by
  unfold row rowsF
  rw [List.getD_eq_getElem?_getD, List.getElem?_map, List.getElem?_range h]
  rfl
theorem rowsF_none {S : List T3} {R : Int} {many i : Nat} (h : ¬ i < many) : row (rowsF S R many) i = [] := by
  unfold row
  rw [List.getD_eq_getElem?_getD, List.getElem?_eq_none (by rw [rowsF_len]; omega)]
  rfl
theorem rowsF_ok {S : List T3} {R : Int} {many : Nat} : EdOk (rowsF S R many) := fun i e he => by
  by_cases h : i < many
  · rw [rowsF_row h] at he
    obtain ⟨j, h1, h2⟩ := rowGo_mem he
    obtain ⟨h3, h4⟩ := stops_mem h1
    exact ⟨j, h2, h3, by rw [rowsF_len]; exact h4⟩
  · rw [rowsF_none h] at he
    cases he
theorem rowsF_asc {S : List T3} {R : Int} {many : Nat} : EdAsc (rowsF S R many) := fun i => by
  by_cases h : i < many
  · rw [rowsF_row h]
    refine rowGo_asc ?_
    unfold stopsF
    refine List.pairwise_map.mpr (List.Pairwise.imp ?_ List.pairwise_lt_range)
    intro a b hab
    omega
  · rw [rowsF_none h]
    exact List.Pairwise.nil
theorem rowsF_rlen {S : List T3} {R : Int} {many : Nat} (i : Nat) : (row (rowsF S R many) i).length ≤ many := by
  by_cases h : i < many
  · rw [rowsF_row h]
    have : (stopsF many i).length = many - i := by unfold stopsF; simp
    exact Nat.le_trans rowGo_len (by omega)
  · rw [rowsF_none h]
    exact Nat.zero_le _
end K77

set_option Elab.async false
set_option linter.all false
set_option maxRecDepth 100000
set_option maxHeartbeats 2000000
namespace K77
open PySem PySem.Spec PyProof.Rows L2 Z
/-- what is asked, and what is due -/
def AskOk (A B C LE MO : Z.D) (q : Z.D) : Prop := ∃ (told num : Z.D) (c : Bool), q = .tup [told, num, .bl c] ∧ m_shows_pages [A, B, C, LE, MO, told, num] = some (.dat (.bl c))
section
variable {lines : Z.D} {t : List (Option Int)} {rs : List (List Ed)} {l m : Nat} {b : Bool} {A B C LE MO : Z.D}
theorem perm_rg {n m : Nat} {X Y : Tf} (h : Y.Perm X) (hX : Rg n m X) : Rg n m Y := ⟨(h.map (fun x : Pl × Int => x.1)).nodup_iff.mpr hX.1, fun x hx => hX.2 x (h.mem_iff.mp hx)⟩
theorem ask_mixed (hP : (m_Pages [A, B, C, LE, MO]).map (fun q => Z.D.obj "Pages" q.1 q.2) = some (pgD lines b t rs l m)) (ht : t.length = rs.length) (he : EdOk rs) (hlen : ∀ i, (row rs i).length ≤ 1000) (hsz : (rs.length + 1) * (m + 1) ≤ 4800) {X Y : Tf} (hX : Rg rs.length m X) (hY : Y.Perm X) (tot : Option Int) :
    AskOk A B C LE MO (.tup [.ptup (Y.map opD), totD tot, .bl (shF t rs l m X tot)]) := by
  have hR := perm_rg hY hX
  have := hR.len
  refine ⟨_, _, _, rfl, ?_⟩
  rw [sh_ok hP ht he hlen hR.2 hR.1 (by omega) tot, shF_perm hY hR.1 tot]
theorem ask_mis (hP : (m_Pages [A, B, C, LE, MO]).map (fun q => Z.D.obj "Pages" q.1 q.2) = some (pgD lines b t rs l m)) (ht : t.length = rs.length) (he : EdOk rs) (hlen : ∀ i, (row rs i).length ≤ 1000) {d : Z.D} (hd : UnP lines b t rs l m d ∨ d = .ptup []) (tot : Option Int) :
    AskOk A B C LE MO (.tup [d, totD tot, .bl false]) := by
  refine ⟨_, _, _, rfl, ?_⟩
  rcases hd with h | rfl
  · exact sh_un hP h
  · have k := sh_ok (X := []) hP ht he hlen (fun _ z => nomatch z) (by unfold Kd; simp) (by simp) tot
    exact k
theorem pick_tot {o : OC} {tot : Int} (P : PoolOk o) : ∃ (z : Option Int) (o' : OC), m__law_pick o [.lst [.int tot, .int tot, .int (tot + 1), .int (tot - 1), .non, .int 0]] = some (.dat (totD z), o') ∧ PoolOk o' := by
  obtain ⟨d, o', h, hd, P'⟩ := pick_ok (ds := [.int tot, .int tot, .int (tot + 1), .int (tot - 1), .non, .int 0]) P (by simp) (by simp)
  simp only [List.mem_cons, List.mem_nil_iff, or_false] at hd
  rcases hd with rfl | rfl | rfl | rfl | rfl | rfl
  · exact ⟨some tot, o', h, P'⟩
  · exact ⟨some tot, o', h, P'⟩
  · exact ⟨some (tot + 1), o', h, P'⟩
  · exact ⟨some (tot - 1), o', h, P'⟩
  · exact ⟨none, o', h, P'⟩
  · exact ⟨some 0, o', h, P'⟩
theorem pick_tot2 {o : OC} {tot : Int} (P : PoolOk o) : ∃ (z : Option Int) (o' : OC), m__law_pick o [.lst [.int tot, .non]] = some (.dat (totD z), o') ∧ PoolOk o' := by
  obtain ⟨d, o', h, hd, P'⟩ := pick_ok (ds := [.int tot, .non]) P (by simp) (by simp)
  simp only [List.mem_cons, List.mem_nil_iff, or_false] at hd
  rcases hd with rfl | rfl
  · exact ⟨some tot, o', h, P'⟩
  · exact ⟨none, o', h, P'⟩
theorem again_go (hP : (m_Pages [A, B, C, LE, MO]).map (fun q => Z.D.obj "Pages" q.1 q.2) = some (pgD lines b t rs l m)) (ht : t.length = rs.length) (he : EdOk rs) (hlen : ∀ i, (row rs i).length ≤ 1000) (hn : rs.length ≤ 400) (hm : m ≤ 12) (hsz : (rs.length + 1) * (m + 1) ≤ 4800)
    {X : Tf} (hX : Rg rs.length m X) (hX1 : 1 ≤ X.length) {o : OC} (P : PoolOk o) {Q : List Z.D} (hQ : Q.length ≤ 1000) (hA : ∀ q ∈ Q, AskOk A B C LE MO q) {tot : Int} {s0 s2 s4 s5 s6 s8 s10 s12 s14 s15 s16 s17 s20 s21 s22 s23 x13 : Option Sl} (h13 : x13 = some (.own (.lst (X.map opD))) ∨ x13 = some (.dat (.lst (X.map opD)))) :
    ∃ (o' : OC) (Q' : List Z.D) (y21 y22 : Option Sl), l_law_1 [s0, some (.own o), s2, some (.dat (.int (rs.length : Int))), s4, s5, s6, some (.dat (.lst (rs.map rowD))), s8, some (.dat (.int (m : Int))), s10, some (.dat (TNp t l m)), s12, x13, s14, s15, s16, s17, some (.dat (.int tot)), some (.own (.lst Q)), s20, s21, s22, s23] =
      some (.nx [s0, some (.own o'), s2, some (.dat (.int (rs.length : Int))), s4, s5, s6, some (.dat (.lst (rs.map rowD))), s8, some (.dat (.int (m : Int))), s10, some (.dat (TNp t l m)), s12, some (.dat (.lst (X.map opD))), s14, s15, s16, s17, some (.dat (.int tot)), some (.own (.lst Q')), s20, y21, y22, s23]) ∧ PoolOk o' ∧ Q'.length ≤ Q.length + 2 ∧ ∀ q ∈ Q', AskOk A B C LE MO q := by
  have hXl := hX.len
  obtain ⟨Y, o1, q1, hY, P1⟩ := other_ok (l := l) ht he hlen hn hm P hX (by omega)
  obtain ⟨Y2, o2, q2, hY2, P2⟩ := spoilt_ok P1 hX hX1 (by omega)
  obtain ⟨d, o3, q3, hd, P3⟩ := pick_ok (ds := [.lst (X.map opD), .lst (Y.map opD), .lst (Y2.map opD)]) P2 (by simp) (by simp)
  obtain ⟨Z, rfl, hZ⟩ : ∃ Z : Tf, d = .lst (Z.map opD) ∧ Rg rs.length m Z := by
    simp only [List.mem_cons, List.mem_nil_iff, or_false] at hd
    rcases hd with rfl | rfl | rfl
    · exact ⟨_, rfl, hX⟩
    · exact ⟨_, rfl, hY⟩
    · exact ⟨_, rfl, hY2⟩
  have hZl := hZ.len
  obtain ⟨z, o4, q4, P4⟩ := pick_tot (tot := tot) P3
  obtain ⟨Z', o5, q5, hZ', P5⟩ := mixed_ok P4 (show Z.length ≤ 4900 by omega)
  have q6 := ls_ok (l := l) ht he hlen hZ.2 hZ.1 (by omega) z
  obtain ⟨d2, o6, q7, hd2, P6⟩ := mis_ok (lines := lines) (b := b) (t := t) (rs := rs) (l := l) (m := m) P5 hX.2 hX1 (by omega)
  obtain ⟨z2, o7, q8, P7⟩ := pick_tot2 (tot := tot) P6
  have ask1 := ask_mixed (l := l) hP ht he hlen hsz hZ hZ' z
  have ask2 := ask_mis (l := l) hP ht he hlen hd2 z2
  refine ⟨o7, Q ++ [.tup [.ptup (Z'.map opD), totD z, .bl (shF t rs l m Z z)]] ++ [.tup [d2, totD z2, .bl false]], some (.dat (.lst (Z.map opD))), some (.dat (totD z)), ?_, P7, by simp, fun q hq => ?_⟩
  · have g1 : Q.length < 16777216 := by omega
    have g2 : Q.length + 1 < 16777216 := by omega
    generalize shF t rs l m Z z = SB at *
    generalize X.map opD = XD at *
    generalize Y.map opD = YD at *
    generalize Y2.map opD = Y2D at *
    generalize Z.map opD = ZD at *
    generalize Z'.map opD = ZD' at *
    generalize (rs.map rowD) = LN at *
    generalize TNp t l m = TP at *
    generalize totD z = TZ at *
    generalize totD z2 = TZ2 at *
    rcases h13 with rfl | rfl <;> simp [l_law_1, q1, q2, q3, q4, q5, q6, q7, q8, g1, g2]
  · rcases List.mem_append.mp hq with h | h
    · rcases List.mem_append.mp h with h | h
      · exact hA q h
      · rw [List.mem_singleton.mp h]; exact ask1
    · rw [List.mem_singleton.mp h]; exact ask2
end
end K77

set_option Elab.async false
set_option linter.all false
set_option maxRecDepth 100000
set_option maxHeartbeats 2000000
namespace K77
open PySem PySem.Spec PyProof.Rows L2 Z
section
variable {lines : Z.D} {t : List (Option Int)} {rs : List (List Ed)} {l m : Nat} {b : Bool} {A B C LE MO : Z.D}
theorem again_loop (hP : (m_Pages [A, B, C, LE, MO]).map (fun q => Z.D.obj "Pages" q.1 q.2) = some (pgD lines b t rs l m)) (ht : t.length = rs.length) (he : EdOk rs) (hlen : ∀ i, (row rs i).length ≤ 1000) (hn : rs.length ≤ 400) (hm : m ≤ 12) (hsz : (rs.length + 1) * (m + 1) ≤ 4800)
    {X : Tf} (hX : Rg rs.length m X) (hX1 : 1 ≤ X.length) {tot : Int} {s0 s2 s4 s5 s6 s8 s10 s12 s14 s15 s16 s17 s23 : Option Sl} : ∀ (ds : List Z.D) (o : OC) (Q : List Z.D) (s20 s21 s22 x13 : Option Sl), PoolOk o → Q.length + 2 * ds.length ≤ 1000 → (∀ q ∈ Q, AskOk A B C LE MO q) → (x13 = some (.own (.lst (X.map opD))) ∨ x13 = some (.dat (.lst (X.map opD)))) →
    ∃ (o' : OC) (Q' : List Z.D) (y13 y20 y21 y22 : Option Sl), forS (nmB 20) l_law_1 ds [s0, some (.own o), s2, some (.dat (.int (rs.length : Int))), s4, s5, s6, some (.dat (.lst (rs.map rowD))), s8, some (.dat (.int (m : Int))), s10, some (.dat (TNp t l m)), s12, x13, s14, s15, s16, s17, some (.dat (.int tot)), some (.own (.lst Q)), s20, s21, s22, s23] =
      some (.nx [s0, some (.own o'), s2, some (.dat (.int (rs.length : Int))), s4, s5, s6, some (.dat (.lst (rs.map rowD))), s8, some (.dat (.int (m : Int))), s10, some (.dat (TNp t l m)), s12, y13, s14, s15, s16, s17, some (.dat (.int tot)), some (.own (.lst Q')), y20, y21, y22, s23]) ∧ PoolOk o' ∧ ∀ q ∈ Q', AskOk A B C LE MO q
  | [], o, Q, s20, s21, s22, x13, P, _, hA, _ => ⟨o, Q, x13, s20, s21, s22, s_for0, P, hA⟩
  | d :: ds, o, Q, s20, s21, s22, x13, P, hl, hA, h13 => by
    rw [List.length_cons] at hl
    obtain ⟨o1, Q1, y21, y22, k1, P1, hl1, hA1⟩ := again_go (l := l) hP ht he hlen hn hm hsz hX hX1 P (Q := Q) (by omega) hA (tot := tot) (s0 := s0) (s2 := s2) (s4 := s4) (s5 := s5) (s6 := s6) (s8 := s8) (s10 := s10) (s12 := s12) (s14 := s14) (s15 := s15) (s16 := s16) (s17 := s17) (s20 := some (.dat d)) (s21 := s21) (s22 := s22) (s23 := s23) h13
    obtain ⟨o2, Q2, y13, y20, z21, z22, k2, P2, hA2⟩ := again_loop hP ht he hlen hn hm hsz hX hX1 (tot := tot) (s0 := s0) (s2 := s2) (s4 := s4) (s5 := s5) (s6 := s6) (s8 := s8) (s10 := s10) (s12 := s12) (s14 := s14) (s15 := s15) (s16 := s16) (s17 := s17) (s23 := s23) ds o1 Q1 (some (.dat d)) y21 y22 _ P1 (by omega) hA1 (.inr rfl)
    refine ⟨o2, Q2, y13, y20, z21, z22, ?_, P2, hA2⟩
    generalize X.map opD = XD at *
    generalize (rs.map rowD) = LN at *
    generalize TNp t l m = TP at *
    have e : nmB 20 d [s0, some (.own o), s2, some (.dat (.int (rs.length : Int))), s4, s5, s6, some (.dat (.lst LN)), s8, some (.dat (.int (m : Int))), s10, some (.dat TP), s12, x13, s14, s15, s16, s17, some (.dat (.int tot)), some (.own (.lst Q)), s20, s21, s22, s23] = some [s0, some (.own o), s2, some (.dat (.int (rs.length : Int))), s4, s5, s6, some (.dat (.lst LN)), s8, some (.dat (.int (m : Int))), s10, some (.dat TP), s12, x13, s14, s15, s16, s17, some (.dat (.int tot)), some (.own (.lst Q)), some (.dat d), s21, s22, s23] := by simp
    show (nmB 20 d _).bind _ = _
    rw [e, Option.bind_some, k1, Option.bind_some]
    exact k2
theorem asked_loop {s0 s1 s2 s3 s4 s7 s11 s12 s13 s14 s15 s16 s17 s18 s19 s20 : Option Sl} : ∀ (Q : List Z.D) (s21 s22 s23 : Option Sl), (∀ q ∈ Q, AskOk A B C LE MO q) → ∃ y21 y22 y23 : Option Sl, forS (tupB 3 (consB (nmB 21) (consB (nmB 22) (consB (nmB 23) nilB)))) l_law_2 Q [s0, s1, s2, s3, s4, some (.dat A), some (.dat B), s7, some (.dat LE), some (.dat MO), some (.dat C), s11, s12, s13, s14, s15, s16, s17, s18, s19, s20, s21, s22, s23] =
    some (.nx [s0, s1, s2, s3, s4, some (.dat A), some (.dat B), s7, some (.dat LE), some (.dat MO), some (.dat C), s11, s12, s13, s14, s15, s16, s17, s18, s19, s20, y21, y22, y23])
  | [], s21, s22, s23, _ => ⟨s21, s22, s23, s_for0⟩
  | q :: Q, s21, s22, s23, hA => by
    obtain ⟨told, num, c, rfl, hs⟩ := hA _ List.mem_cons_self
    obtain ⟨y21, y22, y23, k⟩ := asked_loop (s0 := s0) (s1 := s1) (s2 := s2) (s3 := s3) (s4 := s4) (s7 := s7) (s11 := s11) (s12 := s12) (s13 := s13) (s14 := s14) (s15 := s15) (s16 := s16) (s17 := s17) (s18 := s18) (s19 := s19) (s20 := s20) Q (some (.dat told)) (some (.dat num)) (some (.dat (.bl c))) fun x hx => hA x (List.mem_cons_of_mem _ hx)
    refine ⟨y21, y22, y23, ?_⟩
    have e : tupB 3 (consB (nmB 21) (consB (nmB 22) (consB (nmB 23) nilB))) (.tup [told, num, .bl c]) [s0, s1, s2, s3, s4, some (.dat A), some (.dat B), s7, some (.dat LE), some (.dat MO), some (.dat C), s11, s12, s13, s14, s15, s16, s17, s18, s19, s20, s21, s22, s23] = some [s0, s1, s2, s3, s4, some (.dat A), some (.dat B), s7, some (.dat LE), some (.dat MO), some (.dat C), s11, s12, s13, s14, s15, s16, s17, s18, s19, s20, some (.dat told), some (.dat num), some (.dat (.bl c))] := by simp
    have h2 := same_bl (n := 5) (c := c)
    have e2 : l_law_2 [s0, s1, s2, s3, s4, some (.dat A), some (.dat B), s7, some (.dat LE), some (.dat MO), some (.dat C), s11, s12, s13, s14, s15, s16, s17, s18, s19, s20, some (.dat told), some (.dat num), some (.dat (.bl c))] = some (.nx [s0, s1, s2, s3, s4, some (.dat A), some (.dat B), s7, some (.dat LE), some (.dat MO), some (.dat C), s11, s12, s13, s14, s15, s16, s17, s18, s19, s20, some (.dat told), some (.dat num), some (.dat (.bl c))]) := by
      simp [l_law_2, hs, h2]
    show (tupB 3 _ _ _).bind _ = _
    rw [e, Option.bind_some, e2, Option.bind_some]
    exact k
end
end K77

set_option Elab.async false
set_option linter.all false
set_option maxRecDepth 100000
set_option maxHeartbeats 4000000
namespace K77
open PySem PySem.Spec PyProof.Rows L2 Z
theorem hp30 : powG (.int 10) (.int 30) = some (.dat (.int 1000000000000000000000000000000)) := by unfold powG; simp
section
variable {s0 s2 s3 s4 s5 s6 s7 s8 s9 s10 s11 s12 s13 s15 s17 s18 s19 s20 s21 s22 s23 : Option Sl} {o : OC}
/-- the rows in order -/
theorem st_rows {T : Tf} (hk : Kd T) (hl : T.length ≤ 5300) (st : Fs) : (seqS (asgS 13 (cbS sortRG (consL (itemsCS 12 14) nilL))) st)
    [s0, some (.own o), s2, s3, s4, s5, s6, s7, s8, s9, s10, s11, some (.own (tfD T)), s13, none, s15, none, s17, s18, s19, s20, s21, s22, s23] =
    st [s0, some (.own o), s2, s3, s4, s5, s6, s7, s8, s9, s10, s11, some (.own (tfD T)), some (.own (.lst ((sT T).map opD))), none, s15, none, s17, s18, s19, s20, s21, s22, s23] := by
  have h1 := rows_tf T
  have h2 := sorted_rows T (by omega)
  have h3 := keyP_nodup hk
  have h4 : (T.map toR).length ≤ 16777216 := by rw [List.length_map]; omega
  unfold tfD
  generalize (sT T).map opD = XD at *
  generalize T.map toR = TR at *
  generalize (T.map fun x => keyP x.1) = ks at *
  generalize (T.map fun x => Z.D.int x.2) = ds at *
  simp [-s_sortR, h1, h2, h3, h4]
/-- the ends of the rows -/
theorem st_ends {n : Nat} {rs : List (List Ed)} (hn : rs.length = n) {X : Tf} (hl : X.length ≤ 4900) : lcS (seqI (vS 13)) (tupB 2 (consB (nmB 14) (consB (nmB 16) nilB))) t_law_1 e_law_1 [14, 16]
    [s0, some (.own o), s2, some (.dat (.int (n : Int))), s4, s5, s6, s7, s8, s9, s10, s11, s12, some (.own (.lst (X.map opD))), none, s15, none, s17, s18, s19, s20, s21, s22, s23] =
    some (.own (.lst ((endsF rs X).map Z.D.int)), [s0, some (.own o), s2, some (.dat (.int (n : Int))), s4, s5, s6, s7, s8, s9, s10, s11, s12, some (.dat (.lst (X.map opD))), none, s15, none, s17, s18, s19, s20, s21, s22, s23]) := by
  have k := lcS_filt (fi := seqI (vS 13)) (gb := tupB 2 (consB (nmB 14) (consB (nmB 16) nilB))) (t := t_law_1) (f := e_law_1) (vs := [14, 16]) (env := [s0, some (.own o), s2, some (.dat (.int (n : Int))), s4, s5, s6, s7, s8, s9, s10, s11, s12, some (.own (.lst (X.map opD))), none, s15, none, s17, s18, s19, s20, s21, s22, s23]) (env1 := [s0, some (.own o), s2, some (.dat (.int (n : Int))), s4, s5, s6, s7, s8, s9, s10, s11, s12, some (.dat (.lst (X.map opD))), none, s15, none, s17, s18, s19, s20, s21, s22, s23])
    opD (fun x => decide (x.1.1 = rs.length)) (fun x => Z.D.int x.2) (os := X) (by simp) (by omega) (by simp) (fun x hx => by
      have c1 : ((x.1.1 : Int) = (n : Int)) = (x.1.1 = rs.length) := propext ⟨fun z => by omega, fun z => by omega⟩
      refine ⟨[s0, some (.own o), s2, some (.dat (.int (n : Int))), s4, s5, s6, s7, s8, s9, s10, s11, s12, some (.dat (.lst (X.map opD))), some (.dat (plD x.1)), s15, some (.dat (.int x.2)), s17, s18, s19, s20, s21, s22, s23], .slot 16, ?_, ?_, ?_, ?_, ?_⟩
      · simp [opD]
      · simp [t_law_1, plD, c1]
      · simp [e_law_1]
      · simp
      · simp)
  have e : (X.filter fun x => decide (x.1.1 = rs.length)).map (fun x => Z.D.int x.2) = (endsF rs X).map Z.D.int := by unfold endsF; rw [List.map_map]; rfl
  rw [e] at k
  exact k
/-- best and total -/
theorem st_best {es : List Int} {v : Option W} {A B C LE MO : Z.D} (hb : m_best_pages [A, B, C, LE, MO] = some (.dat (dueD v))) (h1 : es = [] → v = none) (h2 : ∀ n0 r0, es = n0 :: r0 → ∃ w, v = some w ∧ r0.foldl min n0 = w.1) :
    ∃ (tot : Int) (y15 y17 : Option Sl), ∀ st : Fs, (seqS (asgS 17 (callP m_best_pages (consL (vS 5) (consL (vS 6) (consL (vS 10) (consL (vS 8) (consL (vS 9) nilL)))))))
    (seqS (iffS (orT (cmpT neG (tV (isS false (vS 17))) (bin2 (bRes eqG) (vS 15) (lstS nilL))) (andT (truS (vS 15)) (notT (truS (callP (m__law_same 6) (consL (bin2 ixG (vS 17) (cS (.int 0))) (consL (cbS minG (consL (vS 15) nilL)) nilL))))))) (retS (cS (.bl false))) doneS)
    (seqS (asgS 18 (ifS (truS (vS 15)) (cbS minG (consL (vS 15) nilL)) (bin2 powG (cS (.int 10)) (cS (.int 30))))) st)))
    [s0, some (.own o), s2, s3, s4, some (.dat A), some (.dat B), s7, some (.dat LE), some (.dat MO), some (.dat C), s11, s12, s13, none, some (.own (.lst (es.map Z.D.int))), none, s17, s18, s19, s20, s21, s22, s23] =
    st [s0, some (.own o), s2, s3, s4, some (.dat A), some (.dat B), s7, some (.dat LE), some (.dat MO), some (.dat C), s11, s12, s13, none, y15, none, y17, some (.dat (.int tot)), s19, s20, s21, s22, s23] := by
  cases es with
  | nil =>
    have hv := h1 rfl
    subst hv
    have e1 : eqG (.lst []) (.lst []) = some true := rfl
    have e2 : truD (.lst []) = some false := rfl
    have hb' : m_best_pages [A, B, C, LE, MO] = some (.dat .non) := hb
    exact ⟨1000000000000000000000000000000, some (.own (.lst [])), some (.dat .non), fun st => by simp [hb', e1, e2, hp30]⟩
  | cons n0 r0 =>
    obtain ⟨w, hv, hw⟩ := h2 n0 r0 rfl
    subst hv
    have hb' : m_best_pages [A, B, C, LE, MO] = some (.dat (.tup [.int w.1, pgZ w.2.2.2])) := hb
    have e1 : eqG (.lst ((n0 :: r0).map Z.D.int)) (.lst []) = some false := by
      show (intsOf ((n0 :: r0).map Z.D.int)).bind (fun ns => (intsOf []).bind fun ms => some (decide (ns = ms))) = _
      rw [intsOf_map]; rfl
    have e2 : truD (.lst ((n0 :: r0).map Z.D.int)) = some true := rfl
    have e3 : minG [.lst ((n0 :: r0).map Z.D.int)] = some (.dat (.int w.1)) := by
      show (intsOf ((n0 :: r0).map Z.D.int)).bind _ = _
      rw [intsOf_map, ← hw]; rfl
    have e4 := same_int (n := 5) (a := w.1)
    refine ⟨w.1, some (.own (.lst ((n0 :: r0).map Z.D.int))), some (.dat (.tup [.int w.1, pgZ w.2.2.2])), fun st => ?_⟩
    generalize (n0 :: r0).map Z.D.int = ED at *
    generalize pgZ w.2.2.2 = PZ at *
    simp [hb', e1, e2, e3, e4]
end
end K77

set_option Elab.async false
set_option linter.all false
set_option maxRecDepth 100000
set_option maxHeartbeats 4000000
namespace K77
open PySem PySem.Spec PyProof.Rows L2 Z
section
variable {s0 s2 s3 s4 s5 s6 s7 s8 s9 s10 s11 s12 s13 s15 s17 s18 s19 s20 s21 s22 s23 : Option Sl} {o : OC}
theorem stA {tt : Int} (P : PoolOk o) : ∃ (n : Nat) (wide : Int) (o' : OC), 1 ≤ n ∧ n ≤ 400 ∧ 1 ≤ wide ∧ wide ≤ 9 ∧ PoolOk o' ∧ ∀ st : Fs, (seqS (asgT (tupB 2 (consB (nmB 3) (consB (nmB 4) nilB))) (callM m__law_amounts 1 (consL (vS 1) nilL)))
    (seqS (iffS (cmpT gtG (vS 2) (cS (.int 0))) (asgS 3 (cbS minG (consL (vS 3) (consL (cS (.int 12)) nilL)))) doneS) st))
    [s0, some (.own o), some (.dat (.int tt)), s3, s4, s5, s6, s7, s8, s9, s10, s11, s12, s13, none, s15, none, s17, s18, s19, s20, s21, s22, s23] =
    st [s0, some (.own o'), some (.dat (.int tt)), some (.dat (.int (n : Int))), some (.dat (.int wide)), s5, s6, s7, s8, s9, s10, s11, s12, s13, none, s15, none, s17, s18, s19, s20, s21, s22, s23] := by
  obtain ⟨a, wide, o1, h1, a1, a2, b1, b2, P1⟩ := amounts_ok P
  obtain ⟨a, rfl⟩ : ∃ j : Nat, a = (j : Int) := ⟨a.toNat, by omega⟩
  by_cases c : 0 < tt
  · by_cases d : 12 < a
    · have d' : (12 : Int) < (a : Int) := by omega
      exact ⟨12, wide, o1, by omega, by omega, b1, b2, P1, fun st => by simp [h1, c, d']⟩
    · have d' : ¬ (12 : Int) < (a : Int) := by omega
      exact ⟨a, wide, o1, by omega, by omega, b1, b2, P1, fun st => by simp [h1, c, d']⟩
  · exact ⟨a, wide, o1, by omega, by omega, b1, b2, P1, fun st => by simp [h1, c]⟩
theorem stB {n : Nat} {wide : Int} (P : PoolOk o) (h1 : 1 ≤ n) (h2 : n ≤ 400) (b1 : 1 ≤ wide) (b2 : wide ≤ 9) : ∃ (ps : List Pc) (r : Fr) (o' : OC), ps.length = n ∧ (∀ p ∈ ps, PcOk p) ∧ FrOk r ∧ 1 ≤ r.1 ∧ PoolOk o' ∧ ∀ st : Fs, (seqS (asgS 5 (callM m__law_pieces 1 (consL (vS 1) (consL (vS 3) nilL))))
    (seqS (asgS 6 (callM m__law_room 1 (consL (vS 1) (consL (vS 5) (consL (vS 4) nilL)))))
    (seqS (asgS 7 (callP m__law_fitting (consL (callP m__law_scaled (consL (vS 5) (consL (vS 6) nilL))) nilL))) st)))
    [s0, some (.own o), s2, some (.dat (.int (n : Int))), some (.dat (.int wide)), s5, s6, s7, s8, s9, s10, s11, s12, s13, none, s15, none, s17, s18, s19, s20, s21, s22, s23] =
    st [s0, some (.own o'), s2, some (.dat (.int (n : Int))), some (.dat (.int wide)), some (.dat (psD false ps)), some (.dat (frD false r)), some (.own (.lst ((rowsF (sums (com r.2 ps) (0, 0, 0) ps) (sc (com r.2 ps) r) ps.length).map rowD))), s8, s9, s10, s11, s12, s13, none, s15, none, s17, s18, s19, s20, s21, s22, s23] := by
  obtain ⟨ps, o1, q1, hl, hp, P1⟩ := pieces_ok (m := (n : Int)) P (by omega) (by omega)
  have hl' : ps.length = n := by omega
  have hne : ps ≠ [] := fun z => by rw [z] at hl'; simp at hl'; omega
  obtain ⟨r, o2, q2, hr, hr1, P2⟩ := room_ok P1 hp hne (by omega) b1 b2
  have q3 := scaled_ok hp hr (by omega)
  have q4 := fitting_ok (scOk hp hr (by omega))
  refine ⟨ps, r, o2, hl', hp, hr, hr1, P2, fun st => ?_⟩
  generalize (rowsF (sums (com r.2 ps) (0, 0, 0) ps) (sc (com r.2 ps) r) ps.length).map rowD = LN at *
  generalize psD false ps = A at *
  generalize frD false r = B at *
  generalize (sums (com r.2 ps) (0, 0, 0) ps).map t3D = SS at *
  generalize sc (com r.2 ps) r = RR at *
  simp [q1, q2, q3, q4]
theorem stC {n : Nat} (P : PoolOk o) (h2 : n ≤ 400) : ∃ (l m : Nat) (o' : OC), 1 ≤ l ∧ l ≤ m ∧ m ≤ 12 ∧ (n + 1) * (m + 1) ≤ 4800 ∧ PoolOk o' ∧ ∀ st : Fs, (seqS (asgS 8 (bin2 addG (cS (.int 1)) (callM (m__law_take 2) 1 (consL (vS 1) (consL (cS (.int 3)) nilL)))))
    (seqS (asgS 9 (ifS (cmpT lt3G (vS 3) (cS (.int 100))) (callM m__law_pick 1 (consL (vS 1) (consL (lstS (consL (vS 8) (consL (bin2 addG (vS 8) (cS (.int 1))) (consL (cS (.int 12)) nilL)))) nilL))) (bin2 addG (vS 8) (callM (m__law_take 2) 1 (consL (vS 1) (consL (cS (.int 2)) nilL)))))) st))
    [s0, some (.own o), s2, some (.dat (.int (n : Int))), s4, s5, s6, s7, s8, s9, s10, s11, s12, s13, none, s15, none, s17, s18, s19, s20, s21, s22, s23] =
    st [s0, some (.own o'), s2, some (.dat (.int (n : Int))), s4, s5, s6, s7, some (.dat (.int (l : Int))), some (.dat (.int (m : Int))), s10, s11, s12, s13, none, s15, none, s17, s18, s19, s20, s21, s22, s23] := by
  obtain ⟨k, o1, q1, a1, b1, P1⟩ := take_ok (m := 3) P (by decide) (by decide)
  have e : ((1 + k).toNat : Int) = 1 + k := by omega
  by_cases c : n < 100
  · have c' : (n : Int) < 100 := by omega
    obtain ⟨d, o3, q3, hd, P3⟩ := pick_ok (ds := [.int (1 + k), .int (1 + k + 1), .int 12]) P1 (by simp) (by simp)
    obtain ⟨m, rfl, hm1, hm2⟩ : ∃ m : Nat, d = .int (m : Int) ∧ 1 + k ≤ (m : Int) ∧ m ≤ 12 := by
      simp only [List.mem_cons, List.mem_nil_iff, or_false] at hd
      rcases hd with rfl | rfl | rfl
      · exact ⟨(1 + k).toNat, by congr 1; omega, by omega, by omega⟩
      · exact ⟨(1 + k + 1).toNat, by congr 1; omega, by omega, by omega⟩
      · exact ⟨12, rfl, by omega, by omega⟩
    exact ⟨(1 + k).toNat, m, o3, by omega, by omega, hm2, Nat.le_trans (Nat.mul_le_mul (show n + 1 ≤ 100 by omega) (show m + 1 ≤ 13 by omega)) (by decide), P3, fun st => by simp [q1, q3, e, c']⟩
  · have c' : ¬ (n : Int) < 100 := by omega
    obtain ⟨k2, o2, q2, a2, b2, P2⟩ := take_ok (m := 2) P1 (by decide) (by decide)
    have e2 : ((1 + k + k2).toNat : Int) = 1 + k + k2 := by omega
    exact ⟨(1 + k).toNat, (1 + k + k2).toNat, o2, by omega, by omega, by omega, Nat.le_trans (Nat.mul_le_mul (show n + 1 ≤ 401 by omega) (show (1 + k + k2).toNat + 1 ≤ 5 by omega)) (by decide), P2, fun st => by simp [q1, q2, e, e2, c']⟩
theorem stD {n l m : Nat} {rs : List (List Ed)} (P : PoolOk o) (hn : rs.length = n) (h2 : n ≤ 400) (h3 : m ≤ 12) (he : EdOk rs) (hlen : ∀ i, (row rs i).length ≤ 1000) : ∃ (t : List (Option Int)) (o' : OC), t.length = n ∧ TnOk t ∧ PoolOk o' ∧ ∀ st : Fs, (seqS (asgS 10 (callM m__law_turn_costs 1 (consL (vS 1) (consL (vS 3) nilL))))
    (seqS (asgS 11 (tupS (consL (vS 10) (consL (vS 8) (consL (vS 9) nilL)))))
    (seqS (asgS 12 (callP m__law_least (consL (vS 7) (consL (vS 11) nilL)))) st)))
    [s0, some (.own o), s2, some (.dat (.int (n : Int))), s4, s5, s6, some (.own (.lst (rs.map rowD))), some (.dat (.int (l : Int))), some (.dat (.int (m : Int))), s10, s11, s12, s13, none, s15, none, s17, s18, s19, s20, s21, s22, s23] =
    st [s0, some (.own o'), s2, some (.dat (.int (n : Int))), s4, s5, s6, some (.dat (.lst (rs.map rowD))), some (.dat (.int (l : Int))), some (.dat (.int (m : Int))), some (.dat (.tup (t.map oi))), some (.dat (TNp t l m)), some (.own (tfD (fwdF t rs l m))), s13, none, s15, none, s17, s18, s19, s20, s21, s22, s23] := by
  obtain ⟨t, o1, q1, hl, ht, P1⟩ := turns_ok P h2
  have q2 := least_ok (t := t) (l := l) (m := m) (rs := rs) (by omega) he hlen (by omega) h3
  refine ⟨t, o1, hl, ht, P1, fun st => ?_⟩
  generalize tfD (fwdF t rs l m) = oc at *
  generalize (rs.map rowD) = LN at *
  simp only [TNp] at q2 ⊢
  generalize t.map oi = TT at *
  simp [q1, q2]
theorem stF {A B : Z.D} {ps : List Pc} {t : List (Option Int)} {l m : Nat} {X : Tf} (P : PoolOk o) (hl : ps.length ≤ 400) (hXl : X.length ≤ 100000) (hq : ∀ b : Bool, m_page_potentials [psD b ps, B, .tup (t.map oi), .int (l : Int), .int (m : Int)] = some (.dat (.tup (X.map opD)))) : ∃ o' : OC, PoolOk o' ∧ ∀ st : Fs, (seqS (iffS (notT (truS (callP (m__law_same 6) (consL (callP m_page_potentials (consL (callM m__law_given 1 (consL (vS 1) (consL (vS 5) nilL))) (consL (vS 6) (consL (vS 10) (consL (vS 8) (consL (vS 9) nilL)))))) (consL (cbS tupleG (consL (vS 13) nilL)) nilL))))) (retS (cS (.bl false))) doneS) st)
    [s0, some (.own o), s2, s3, s4, some (.dat (psD false ps)), some (.dat B), s7, some (.dat (.int (l : Int))), some (.dat (.int (m : Int))), some (.dat (.tup (t.map oi))), s11, s12, some (.own (.lst (X.map opD))), none, s15, none, s17, s18, s19, s20, s21, s22, s23] =
    st [s0, some (.own o'), s2, s3, s4, some (.dat (psD false ps)), some (.dat B), s7, some (.dat (.int (l : Int))), some (.dat (.int (m : Int))), some (.dat (.tup (t.map oi))), s11, s12, some (.own (.lst (X.map opD))), none, s15, none, s17, s18, s19, s20, s21, s22, s23] := by
  obtain ⟨b1, tt1, o4, h4, hf4, P4⟩ := given_ok P hl
  have h5 := hq b1
  have h6 := same_rows hXl
  refine ⟨o4, P4, fun st => ?_⟩
  generalize X.map opD = XD at *
  generalize t.map oi = TT at *
  generalize psD false ps = A at *
  generalize psD b1 ps = A1 at *
  simp [h4, hf4, h5, h6]
end
end K77

set_option Elab.async false
set_option linter.all false
set_option maxRecDepth 100000
set_option maxHeartbeats 4000000
namespace K77
open PySem PySem.Spec PyProof.Rows L2 Z
theorem stI {s0 s2 s3 s4 s5 s6 s7 s8 s9 s10 s11 s12 s15 s17 s18 s19 s20 s21 s22 s23 : Option Sl} {o : OC} {lines : Z.D} {t : List (Option Int)} {rs : List (List Ed)} {l m : Nat} {b : Bool} {A B C LE MO : Z.D} (P : PoolOk o) (hP : (m_Pages [A, B, C, LE, MO]).map (fun q => Z.D.obj "Pages" q.1 q.2) = some (pgD lines b t rs l m)) (ht : t.length = rs.length) (he : EdOk rs) (hlen : ∀ i, (row rs i).length ≤ 1000) {X : Tf} (hX : Rg rs.length m X) (hl : X.length ≤ 4900) :
    ∃ (o' : OC) (q : Z.D), PoolOk o' ∧ AskOk A B C LE MO q ∧ ∀ st : Fs, (seqS (asgS 19 (lstS (consL (tupS (consL (cbS tuplePG (consL (vS 13) nilL)) (consL (callM m__law_pick 1 (consL (vS 1) (consL (lstS (consL (cS (.bl true)) (consL (cS (.str "0")) (consL (tupS (consL (cS (.int 0)) (consL (cS (.int 1)) nilL))) nilL)))) nilL))) (consL (cS (.bl false)) nilL)))) nilL))) st)
    [s0, some (.own o), s2, s3, s4, s5, s6, s7, s8, s9, s10, s11, s12, some (.dat (.lst (X.map opD))), none, s15, none, s17, s18, s19, s20, s21, s22, s23] =
    st [s0, some (.own o'), s2, s3, s4, s5, s6, s7, s8, s9, s10, s11, s12, some (.dat (.lst (X.map opD))), none, s15, none, s17, s18, some (.own (.lst [q])), s20, s21, s22, s23] := by
  obtain ⟨d, o1, q1, hd, P1⟩ := pick_ok (ds := [.bl true, .str "0", .tup [.int 0, .int 1]]) P (by simp) (by simp)
  have hb : isN d = false ∧ m_is_whole [d] = some (.dat (.bl false)) := by
    simp only [List.mem_cons, List.mem_nil_iff, or_false] at hd
    rcases hd with rfl | rfl | rfl
    · exact ⟨rfl, whole_bl⟩
    · exact ⟨rfl, whole_str⟩
    · exact ⟨rfl, whole_tup⟩
  refine ⟨o1, .tup [.ptup (X.map opD), d, .bl false], P1, ⟨_, _, _, rfl, sh_bad hP ht he hlen hX.2 hX.1 hl hb.1 hb.2⟩, fun st => ?_⟩
  generalize X.map opD = XD at *
  simp [q1]
theorem fwd_ne {t : List (Option Int)} {rs : List (List Ed)} {l m : Nat} : 1 ≤ (fwdF t rs l m).length := by
  have : ∀ (ps : List Pl) (T : Tf) (u : Int), look T (0, 0) = some u → ∃ v, look (ps.foldl (stepF t rs l m) T) (0, 0) = some v := by
    intro ps
    induction ps with
    | nil => exact fun T u h => ⟨u, h⟩
    | cons p ps ih =>
      intro T u h
      obtain ⟨u1, h1, _⟩ := fold_mono (p := p) (folF t rs l m p) h
      exact ih _ u1 h1
  obtain ⟨v, hv⟩ := this (plsF rs.length m) [((0, 0), 0)] 0 rfl
  exact List.length_pos_of_mem (look_mem hv)
theorem turn_go {s : Z.D} {o : OC} (P : PoolOk o) {tt : Int} {s3 s4 s5 s6 s7 s8 s9 s10 s11 s12 s13 s15 s17 s18 s19 s20 s21 s22 s23 : Option Sl} :
    ∃ (o' : OC) (y3 y4 y5 y6 y7 y8 y9 y10 y11 y12 y13 y15 y17 y18 y19 y20 y21 y22 y23 : Option Sl), l_law_3 [some (.dat s), some (.own o), some (.dat (.int tt)), s3, s4, s5, s6, s7, s8, s9, s10, s11, s12, s13, none, s15, none, s17, s18, s19, s20, s21, s22, s23] =
      some (.nx [some (.dat s), some (.own o'), some (.dat (.int tt)), y3, y4, y5, y6, y7, y8, y9, y10, y11, y12, y13, none, y15, none, y17, y18, y19, y20, y21, y22, y23]) ∧ PoolOk o' := by
  obtain ⟨n, wide, o1, n1, n2, b1, b2, P1, eA⟩ := stA (s0 := some (.dat s)) (s3 := s3) (s4 := s4) (s5 := s5) (s6 := s6) (s7 := s7) (s8 := s8) (s9 := s9) (s10 := s10) (s11 := s11) (s12 := s12) (s13 := s13) (s15 := s15) (s17 := s17) (s18 := s18) (s19 := s19) (s20 := s20) (s21 := s21) (s22 := s22) (s23 := s23) (tt := tt) P
  obtain ⟨ps, r, o2, hl, hp, hr, hr1, P2, eB⟩ := stB (s0 := some (.dat s)) (s2 := some (.dat (.int tt))) (s5 := s5) (s6 := s6) (s7 := s7) (s8 := s8) (s9 := s9) (s10 := s10) (s11 := s11) (s12 := s12) (s13 := s13) (s15 := s15) (s17 := s17) (s18 := s18) (s19 := s19) (s20 := s20) (s21 := s21) (s22 := s22) (s23 := s23) P1 n1 n2 b1 b2
  obtain ⟨rs, hrs⟩ : ∃ rs, rs = rowsF (sums (com r.2 ps) (0, 0, 0) ps) (sc (com r.2 ps) r) ps.length := ⟨_, rfl⟩
  rw [← hrs] at eB
  have hn : rs.length = ps.length := by rw [hrs]; exact rowsF_len
  have ho : EdOk rs := by rw [hrs]; exact rowsF_ok
  have ha : EdAsc rs := by rw [hrs]; exact rowsF_asc
  have hrl : ∀ i, (row rs i).length ≤ 1000 := fun i => by
    have : (row rs i).length ≤ ps.length := by rw [hrs]; exact rowsF_rlen i
    omega
  obtain ⟨l, m, o3, l1, l2, l3, lsz, P3, eC⟩ := stC (n := n) (s0 := some (.dat s)) (s2 := some (.dat (.int tt))) (s4 := some (.dat (.int wide))) (s5 := some (.dat (psD false ps))) (s6 := some (.dat (frD false r))) (s7 := some (.own (.lst (rs.map rowD)))) (s8 := s8) (s9 := s9) (s10 := s10) (s11 := s11) (s12 := s12) (s13 := s13) (s15 := s15) (s17 := s17) (s18 := s18) (s19 := s19) (s20 := s20) (s21 := s21) (s22 := s22) (s23 := s23) P2 n2
  obtain ⟨t, o4, t1, t2, P4, eD⟩ := stD (n := n) (l := l) (m := m) (rs := rs) (s0 := some (.dat s)) (s2 := some (.dat (.int tt))) (s4 := some (.dat (.int wide))) (s5 := some (.dat (psD false ps))) (s6 := some (.dat (frD false r))) (s10 := s10) (s11 := s11) (s12 := s12) (s13 := s13) (s15 := s15) (s17 := s17) (s18 := s18) (s19 := s19) (s20 := s20) (s21 := s21) (s22 := s22) (s23 := s23) P3 (by omega) n2 l3 ho hrl
  have hR : Rg rs.length m (fwdF t rs l m) := fwd_rg ho
  have hTl := hR.len
  have hsz : (rs.length + 1) * (m + 1) ≤ 4800 := by rw [hn, hl]; exact lsz
  obtain ⟨X, hXe⟩ : ∃ X, X = sT (fwdF t rs l m) := ⟨_, rfl⟩
  have hXp : X.Perm (fwdF t rs l m) := by rw [hXe]; exact sT_perm _
  have hX : Rg rs.length m X := perm_rg hXp hR
  have hXl := hX.len
  have hX1 : 1 ≤ X.length := by rw [hXp.length_eq]; exact fwd_ne
  have eE := fun st => st_rows (s0 := some (.dat s)) (s2 := some (.dat (.int tt))) (s3 := some (.dat (.int (n : Int)))) (s4 := some (.dat (.int wide))) (s5 := some (.dat (psD false ps))) (s6 := some (.dat (frD false r))) (s7 := some (.dat (.lst (rs.map rowD)))) (s8 := some (.dat (.int (l : Int)))) (s9 := some (.dat (.int (m : Int)))) (s10 := some (.dat (.tup (t.map oi)))) (s11 := some (.dat (TNp t l m))) (s13 := s13) (s15 := s15) (s17 := s17) (s18 := s18) (s19 := s19) (s20 := s20) (s21 := s21) (s22 := s22) (s23 := s23) (o := o4) (T := fwdF t rs l m) hR.1 (by omega) st
  rw [← hXe] at eE
  have hpot : ∀ b : Bool, m_page_potentials [psD b ps, frD false r, .tup (t.map oi), .int (l : Int), .int (m : Int)] = some (.dat (.tup (X.map opD))) := fun b => by
    have k := pot_ok (b := b) (b2 := false) (t := t) (l := l) (m := m) hp hr hr1 (by omega) (by omega) (by omega) t2 l1 l2 l3 hrs ho hrl
    rw [rowsT_eq, ← hXe] at k
    exact k
  obtain ⟨o5, P5, eF⟩ := stF (s0 := some (.dat s)) (s2 := some (.dat (.int tt))) (s3 := some (.dat (.int (n : Int)))) (s4 := some (.dat (.int wide))) (s7 := some (.dat (.lst (rs.map rowD)))) (s11 := some (.dat (TNp t l m))) (s12 := some (.own (tfD (fwdF t rs l m)))) (s15 := s15) (s17 := s17) (s18 := s18) (s19 := s19) (s20 := s20) (s21 := s21) (s22 := s22) (s23 := s23) (A := .non) P4 (by omega) (by omega) hpot
  have eG := st_ends (n := n) (rs := rs) (by omega) (X := X) (s0 := some (.dat s)) (s2 := some (.dat (.int tt))) (s4 := some (.dat (.int wide))) (s5 := some (.dat (psD false ps))) (s6 := some (.dat (frD false r))) (s7 := some (.dat (.lst (rs.map rowD)))) (s8 := some (.dat (.int (l : Int)))) (s9 := some (.dat (.int (m : Int)))) (s10 := some (.dat (.tup (t.map oi)))) (s11 := some (.dat (TNp t l m))) (s12 := some (.own (tfD (fwdF t rs l m)))) (s15 := s15) (s17 := s17) (s18 := s18) (s19 := s19) (s20 := s20) (s21 := s21) (s22 := s22) (s23 := s23) (o := o5) (by omega)
  have hbest := best_ok (b := false) (b2 := false) (t := t) (l := l) (m := m) hp hr hr1 (by omega) (by omega) (by omega) t2 l1 l2 l3 hrs ho ha hrl
  obtain ⟨c1, c2⟩ := best_cost (t := t) (l := l) (m := m) ho l1 (by omega) hXp
  obtain ⟨tot, y15, y17, eH⟩ := st_best (s0 := some (.dat s)) (s2 := some (.dat (.int tt))) (s3 := some (.dat (.int (n : Int)))) (s4 := some (.dat (.int wide))) (s7 := some (.dat (.lst (rs.map rowD)))) (s11 := some (.dat (TNp t l m))) (s12 := some (.own (tfD (fwdF t rs l m)))) (s13 := some (.dat (.lst (X.map opD)))) (s17 := s17) (s18 := s18) (s19 := s19) (s20 := s20) (s21 := s21) (s22 := s22) (s23 := s23) (o := o5) hbest c1 c2
  have hPm := pages_mk (b := false) (b2 := false) (t := t) (l := l) (m := m) (rs := rs) hp hr hr1 (by omega) (by omega) (by omega) t2 l1 l2 l3 hrs
  obtain ⟨o6, q, P6, hq, eI⟩ := stI (s0 := some (.dat s)) (s2 := some (.dat (.int tt))) (s3 := some (.dat (.int (n : Int)))) (s4 := some (.dat (.int wide))) (s5 := some (.dat (psD false ps))) (s6 := some (.dat (frD false r))) (s7 := some (.dat (.lst (rs.map rowD)))) (s8 := some (.dat (.int (l : Int)))) (s9 := some (.dat (.int (m : Int)))) (s10 := some (.dat (.tup (t.map oi)))) (s11 := some (.dat (TNp t l m))) (s12 := some (.own (tfD (fwdF t rs l m)))) (s15 := y15) (s17 := y17) (s18 := some (.dat (.int tot))) (s19 := s19) (s20 := s20) (s21 := s21) (s22 := s22) (s23 := s23) P5 hPm (by omega) ho hrl hX (by omega)
  obtain ⟨cnt, hc3, hcnt⟩ : ∃ cnt : Nat, cnt ≤ 8 ∧ ((n < 100 ∧ cnt = 8) ∨ (¬ n < 100 ∧ cnt = 1)) := by
    by_cases c : n < 100
    · exact ⟨8, by omega, .inl ⟨c, rfl⟩⟩
    · exact ⟨1, by omega, .inr ⟨c, rfl⟩⟩
  obtain ⟨o7, Q', y13, y20, y21, y22, eJ, P7, hA⟩ := again_loop (l := l) hPm (by omega) ho hrl (by omega) l3 hsz hX hX1 (tot := tot) (s0 := some (.dat s)) (s2 := some (.dat (.int tt))) (s4 := some (.dat (.int wide))) (s5 := some (.dat (psD false ps))) (s6 := some (.dat (frD false r))) (s8 := some (.dat (.int (l : Int)))) (s10 := some (.dat (.tup (t.map oi)))) (s12 := some (.own (tfD (fwdF t rs l m)))) (s14 := none) (s15 := y15) (s16 := none) (s17 := y17) (s23 := s23) (rngD 0 cnt) o6 [q] s20 s21 s22 _ P6 (by rw [rngD_length]; simp; omega) (fun x hx => by rw [List.mem_singleton.mp hx]; exact hq) (.inr rfl)
  rw [hn, hl] at eJ
  obtain ⟨z21, z22, z23, eK⟩ := asked_loop (A := psD false ps) (B := frD false r) (C := tnD false t) (LE := .int (l : Int)) (MO := .int (m : Int)) (s0 := some (.dat s)) (s1 := some (.own o7)) (s2 := some (.dat (.int tt))) (s3 := some (.dat (.int (n : Int)))) (s4 := some (.dat (.int wide))) (s7 := some (.dat (.lst (rs.map rowD)))) (s11 := some (.dat (TNp t l m))) (s12 := some (.own (tfD (fwdF t rs l m)))) (s13 := y13) (s14 := none) (s15 := y15) (s16 := none) (s17 := y17) (s18 := some (.dat (.int tot))) (s19 := some (.dat (.lst Q'))) (s20 := y20) Q' y21 y22 s23 hA
  refine ⟨o7, some (.dat (.int (n : Int))), some (.dat (.int wide)), some (.dat (psD false ps)), some (.dat (frD false r)), some (.dat (.lst (rs.map rowD))), some (.dat (.int (l : Int))), some (.dat (.int (m : Int))), some (.dat (.tup (t.map oi))), some (.dat (TNp t l m)), some (.own (tfD (fwdF t rs l m))), y13, y15, y17, some (.dat (.int tot)), some (.dat (.lst Q')), y20, z21, z22, z23, ?_, P7⟩
  have htn : tnD false t = .tup (t.map oi) := rfl
  rw [htn] at eH eK
  unfold l_law_3
  rw [eA, eB, eC, eD, eE, eF]
  have eG2 : ∀ st : Fs, (seqS (asgS 15 (lcS (seqI (vS 13)) (tupB 2 (consB (nmB 14) (consB (nmB 16) nilB))) t_law_1 e_law_1 [14, 16])) st) [some (.dat s), some (.own o5), some (.dat (.int tt)), some (.dat (.int (n : Int))), some (.dat (.int wide)), some (.dat (psD false ps)), some (.dat (frD false r)), some (.dat (.lst (rs.map rowD))), some (.dat (.int (l : Int))), some (.dat (.int (m : Int))), some (.dat (.tup (t.map oi))), some (.dat (TNp t l m)), some (.own (tfD (fwdF t rs l m))), some (.own (.lst (X.map opD))), none, s15, none, s17, s18, s19, s20, s21, s22, s23] =
      st [some (.dat s), some (.own o5), some (.dat (.int tt)), some (.dat (.int (n : Int))), some (.dat (.int wide)), some (.dat (psD false ps)), some (.dat (frD false r)), some (.dat (.lst (rs.map rowD))), some (.dat (.int (l : Int))), some (.dat (.int (m : Int))), some (.dat (.tup (t.map oi))), some (.dat (TNp t l m)), some (.own (tfD (fwdF t rs l m))), some (.dat (.lst (X.map opD))), none, some (.own (.lst ((endsF rs X).map Z.D.int))), none, s17, s18, s19, s20, s21, s22, s23] := fun st => by
    generalize (endsF rs X).map Z.D.int = ED at *
    generalize X.map opD = XD at *
    simp [-s_lcS, eG]
  rw [eG2, eH, eI]
  clear eA eB eC eD eE eF eG eG2 eH eI hpot hbest
  generalize psD false ps = A at *
  generalize frD false r = B at *
  generalize (rs.map rowD) = LN at *
  generalize t.map oi = TT at *
  generalize TNp t l m = TP at *
  generalize tfD (fwdF t rs l m) = oc at *
  generalize X.map opD = XD at *
  rcases hcnt with ⟨c, rfl⟩ | ⟨c, rfl⟩
  · have c' : (n : Int) < 100 := by omega
    simp [c', eJ, eK]
  · have c' : ¬ (n : Int) < 100 := by omega
    simp [c', eJ, eK]
end K77

set_option Elab.async false
set_option linter.all false
set_option maxRecDepth 100000
set_option maxHeartbeats 2000000
namespace K77
open PySem PySem.Spec PyProof.Rows L2 Z
theorem rng3d : rngD 0 3 = [.int 0, .int 1, .int 2] := by rfl
theorem law_ok (ns : List Int) (h : ns.length ≤ 63) : m_law [.scr ns] = some (.dat (.bl true)) := by
  obtain ⟨o, h1, P⟩ := pool_ok h
  have key : ∀ (ds : List Z.D) (o : OC) (s2 s3 s4 s5 s6 s7 s8 s9 s10 s11 s12 s13 s15 s17 s18 s19 s20 s21 s22 s23 : Option Sl), (∀ d ∈ ds, ∃ t : Int, d = .int t) → PoolOk o → ∃ env', forS (nmB 2) l_law_3 ds [some (.dat (.scr ns)), some (.own o), s2, s3, s4, s5, s6, s7, s8, s9, s10, s11, s12, s13, none, s15, none, s17, s18, s19, s20, s21, s22, s23] = some (.nx env') := by
    intro ds
    induction ds with
    | nil => intro o s2 s3 s4 s5 s6 s7 s8 s9 s10 s11 s12 s13 s15 s17 s18 s19 s20 s21 s22 s23 _ _; exact ⟨_, rfl⟩
    | cons d ds ih =>
      intro o s2 s3 s4 s5 s6 s7 s8 s9 s10 s11 s12 s13 s15 s17 s18 s19 s20 s21 s22 s23 hd P
      obtain ⟨t, rfl⟩ := hd d (List.mem_cons_self ..)
      obtain ⟨o', y3, y4, y5, y6, y7, y8, y9, y10, y11, y12, y13, y15, y17, y18, y19, y20, y21, y22, y23, step, P'⟩ := turn_go (s := .scr ns) P (tt := t) (s3 := s3) (s4 := s4) (s5 := s5) (s6 := s6) (s7 := s7) (s8 := s8) (s9 := s9) (s10 := s10) (s11 := s11) (s12 := s12) (s13 := s13) (s15 := s15) (s17 := s17) (s18 := s18) (s19 := s19) (s20 := s20) (s21 := s21) (s22 := s22) (s23 := s23)
      obtain ⟨env', k⟩ := ih o' (some (.dat (.int t))) y3 y4 y5 y6 y7 y8 y9 y10 y11 y12 y13 y15 y17 y18 y19 y20 y21 y22 y23 (fun e he => hd e (List.mem_cons_of_mem _ he)) P'
      refine ⟨env', ?_⟩
      rw [s_for1]
      show Option.bind (l_law_3 [some (.dat (.scr ns)), some (.own o), some (.dat (.int t)), s3, s4, s5, s6, s7, s8, s9, s10, s11, s12, s13, none, s15, none, s17, s18, s19, s20, s21, s22, s23]) _ = _
      rw [step, Option.bind_some]
      exact k
  obtain ⟨env', k⟩ := key [.int 0, .int 1, .int 2] o none none none none none none none none none none none none none none none none none none none none (fun d hd => by
    simp only [List.mem_cons, List.mem_nil_iff, or_false] at hd
    rcases hd with rfl | rfl | rfl
    · exact ⟨_, rfl⟩
    · exact ⟨_, rfl⟩
    · exact ⟨_, rfl⟩) P
  simp [m_law, b_law, h1, rng3d, k]
end K77

set_option Elab.async false
set_option linter.all false
set_option maxRecDepth 100000
set_option maxHeartbeats 4000000
namespace K77
open PySem PySem.Spec PyProof.Rows L2 Z
def spLaw (K : PySem.W.Frag) : Sp := fun vs H Q _ => ∃ (a : Addr) (ns : List Int), vs = [.ref a] ∧ SqL K H a (ns.map V.int) ∧ ns.length ≤ 63 ∧ ∀ H', Q (.bl true) H'
theorem spLaw_of {K : PySem.W.Frag} {cl : Str → Addr} (vs : List V) (H : Hp) (Q : VK) (E : XK) (h : spLaw K vs H Q E) : spP K cl 1 m_law vs H Q E := by
  obtain ⟨a, ns, rfl, hS, hl, q⟩ := h
  refine ⟨rfl, H, fun _ => none, [.scr ns], _, law_ok ns hl, Le.refl _, fun _ _ z => (by cases z), fun _ _ z => (by cases z), .cons (.scr hS) .nil, fun F' H' v _ _ _ _ a1 => ?_⟩
  cases a1
  exact q H'
theorem all_mk {P : Program} {w : World} {K : PySem.W.Frag} {h : Heap} {mg : Str → Option Value} {fa : Addr} (X : K.In h) (G : h.Ns mainGlobals mg) (hfa : mg "law" = some (.ref fa)) {f1 f2 f3 f4 f5 f6 f7 f8 f9 f10 f11 f12 f13 f14 f15 f16 f17 f18 f19 f20 f21 f22 f23 f24 f25 f26 f27 f28 f29 f30 f31 f32 f33 f34 f35 f36 f37 f38 f39 f40 f41 f42 f43 f44 f45 f46 f47 : Addr} {CLines : Addr} {CPages : Addr} {od1 an1 od2 an2 od3 an3 od4 an4 od5 an5 od6 an6 od7 an7 od8 an8 od9 an9 od10 an10 od11 an11 od12 an12 od13 an13 od14 an14 od15 an15 od16 an16 od17 an17 od18 an18 od19 an19 od20 an20 od21 an21 od22 an22 od23 an23 od24 an24 od25 an25 od26 an26 od27 an27 od28 an28 od29 an29 od30 an30 od31 an31 od32 an32 od33 an33 od34 an34 od35 an35 od36 an36 od37 an37 od38 an38 od39 an39 od40 an40 od41 an41 od42 an42 od43 an43 od44 an44 od45 an45 od46 an46 od47 an47 : Option Addr} {sl1 sl2 sl3 sl4 sl5 sl6 sl7 sl8 sl9 sl10 sl11 sl12 sl13 sl14 sl15 sl16 sl17 sl18 sl19 sl20 sl21 sl22 sl23 sl24 sl25 sl26 sl27 sl28 sl29 sl30 sl31 sl32 sl33 sl34 sl35 sl36 sl37 sl38 sl39 sl40 sl41 sl42 sl43 sl44 sl45 sl46 sl47 : Array (Option Value)} {oc1 kV1 dc1 pm1 cd1 ct1 oc2 kV2 dc2 pm2 cd2 ct2 oc3 kV3 dc3 pm3 cd3 ct3 oc4 kV4 dc4 pm4 cd4 ct4 oc5 kV5 dc5 pm5 cd5 ct5 oc6 kV6 dc6 pm6 cd6 ct6 oc7 kV7 dc7 pm7 cd7 ct7 oc8 kV8 dc8 pm8 cd8 ct8 oc9 kV9 dc9 pm9 cd9 ct9 oc10 kV10 dc10 pm10 cd10 ct10 oc11 kV11 dc11 pm11 cd11 ct11 oc12 kV12 dc12 pm12 cd12 ct12 oc13 kV13 dc13 pm13 cd13 ct13 oc14 kV14 dc14 pm14 cd14 ct14 oc15 kV15 dc15 pm15 cd15 ct15 oc16 kV16 dc16 pm16 cd16 ct16 oc17 kV17 dc17 pm17 cd17 ct17 oc18 kV18 dc18 pm18 cd18 ct18 oc19 kV19 dc19 pm19 cd19 ct19 oc20 kV20 dc20 pm20 cd20 ct20 oc21 kV21 dc21 pm21 cd21 ct21 oc22 kV22 dc22 pm22 cd22 ct22 oc23 kV23 dc23 pm23 cd23 ct23 oc24 kV24 dc24 pm24 cd24 ct24 oc25 kV25 dc25 pm25 cd25 ct25 oc26 kV26 dc26 pm26 cd26 ct26 oc27 kV27 dc27 pm27 cd27 ct27 oc28 kV28 dc28 pm28 cd28 ct28 oc29 kV29 dc29 pm29 cd29 ct29 oc30 kV30 dc30 pm30 cd30 ct30 oc31 kV31 dc31 pm31 cd31 ct31 oc32 kV32 dc32 pm32 cd32 ct32 oc33 kV33 dc33 pm33 cd33 ct33 oc34 kV34 dc34 pm34 cd34 ct34 oc35 kV35 dc35 pm35 cd35 ct35 oc36 kV36 dc36 pm36 cd36 ct36 oc37 kV37 dc37 pm37 cd37 ct37 oc38 kV38 dc38 pm38 cd38 ct38 oc39 kV39 dc39 pm39 cd39 ct39 oc40 kV40 dc40 pm40 cd40 ct40 oc41 kV41 dc41 pm41 cd41 ct41 oc42 kV42 dc42 pm42 cd42 ct42 oc43 kV43 dc43 pm43 cd43 ct43 oc44 kV44 dc44 pm44 cd44 ct44 oc45 kV45 dc45 pm45 cd45 ct45 oc46 kV46 dc46 pm46 cd46 ct46 oc47 kV47 dc47 pm47 cd47 ct47 : Value}  {tMOST_BOTTOM} {tMOST_LINES} {tMOST_PIECES} {tMOST_TOP} {tMOST_TURN} {tSCALE}
    (aCLines : PySem.W.nsIn K mainGlobals "Lines" = some (some (.ref CLines)))
    (aCPages : PySem.W.nsIn K mainGlobals "Pages" = some (some (.ref CPages)))
    (a1 : PySem.W.nsIn K mainGlobals "_law_pool" = some (some (.ref f1)))
    (l1 : K.lookup f1 = some ⟨oc1, od1, .func (PySem.W.fnOf "_law_pool" "_law_pool" (defArgs st__law_pool) (defBody st__law_pool) (defScope st__law_pool) .none kV1 dc1 pm1 an1 cd1 ct1), sl1⟩)
    (c1 : PySem.W.codeIn K cd1 "_law_pool" = true)
    (k1 : PySem.W.keepIn K (.ref f1) = true)
    (a2 : PySem.W.nsIn K mainGlobals "_law_take" = some (some (.ref f2)))
    (l2 : K.lookup f2 = some ⟨oc2, od2, .func (PySem.W.fnOf "_law_take" "_law_take" (defArgs st__law_take) (defBody st__law_take) (defScope st__law_take) .none kV2 dc2 pm2 an2 cd2 ct2), sl2⟩)
    (c2 : PySem.W.codeIn K cd2 "_law_take" = true)
    (k2 : PySem.W.keepIn K (.ref f2) = true)
    (a3 : PySem.W.nsIn K mainGlobals "_law_pick" = some (some (.ref f3)))
    (l3 : K.lookup f3 = some ⟨oc3, od3, .func (PySem.W.fnOf "_law_pick" "_law_pick" (defArgs st__law_pick) (defBody st__law_pick) (defScope st__law_pick) .none kV3 dc3 pm3 an3 cd3 ct3), sl3⟩)
    (c3 : PySem.W.codeIn K cd3 "_law_pick" = true)
    (k3 : PySem.W.keepIn K (.ref f3) = true)
    (a4 : PySem.W.nsIn K mainGlobals "_law_amounts" = some (some (.ref f4)))
    (l4 : K.lookup f4 = some ⟨oc4, od4, .func (PySem.W.fnOf "_law_amounts" "_law_amounts" (defArgs st__law_amounts) (defBody st__law_amounts) (defScope st__law_amounts) .none kV4 dc4 pm4 an4 cd4 ct4), sl4⟩)
    (c4 : PySem.W.codeIn K cd4 "_law_amounts" = true)
    (k4 : PySem.W.keepIn K (.ref f4) = true)
    (a5 : PySem.W.nsIn K mainGlobals "_law_lowest" = some (some (.ref f5)))
    (l5 : K.lookup f5 = some ⟨oc5, od5, .func (PySem.W.fnOf "_law_lowest" "_law_lowest" (defArgs st__law_lowest) (defBody st__law_lowest) (defScope st__law_lowest) .none kV5 dc5 pm5 an5 cd5 ct5), sl5⟩)
    (c5 : PySem.W.codeIn K cd5 "_law_lowest" = true)
    (k5 : PySem.W.keepIn K (.ref f5) = true)
    (a6 : PySem.W.nsIn K mainGlobals "_law_piece" = some (some (.ref f6)))
    (l6 : K.lookup f6 = some ⟨oc6, od6, .func (PySem.W.fnOf "_law_piece" "_law_piece" (defArgs st__law_piece) (defBody st__law_piece) (defScope st__law_piece) .none kV6 dc6 pm6 an6 cd6 ct6), sl6⟩)
    (c6 : PySem.W.codeIn K cd6 "_law_piece" = true)
    (k6 : PySem.W.keepIn K (.ref f6) = true)
    (a7 : PySem.W.nsIn K mainGlobals "_law_pieces" = some (some (.ref f7)))
    (l7 : K.lookup f7 = some ⟨oc7, od7, .func (PySem.W.fnOf "_law_pieces" "_law_pieces" (defArgs st__law_pieces) (defBody st__law_pieces) (defScope st__law_pieces) .none kV7 dc7 pm7 an7 cd7 ct7), sl7⟩)
    (c7 : PySem.W.codeIn K cd7 "_law_pieces" = true)
    (k7 : PySem.W.keepIn K (.ref f7) = true)
    (a8 : PySem.W.nsIn K mainGlobals "_law_sum" = some (some (.ref f8)))
    (l8 : K.lookup f8 = some ⟨oc8, od8, .func (PySem.W.fnOf "_law_sum" "_law_sum" (defArgs st__law_sum) (defBody st__law_sum) (defScope st__law_sum) .none kV8 dc8 pm8 an8 cd8 ct8), sl8⟩)
    (c8 : PySem.W.codeIn K cd8 "_law_sum" = true)
    (k8 : PySem.W.keepIn K (.ref f8) = true)
    (a9 : PySem.W.nsIn K mainGlobals "_law_room" = some (some (.ref f9)))
    (l9 : K.lookup f9 = some ⟨oc9, od9, .func (PySem.W.fnOf "_law_room" "_law_room" (defArgs st__law_room) (defBody st__law_room) (defScope st__law_room) .none kV9 dc9 pm9 an9 cd9 ct9), sl9⟩)
    (c9 : PySem.W.codeIn K cd9 "_law_room" = true)
    (k9 : PySem.W.keepIn K (.ref f9) = true)
    (a10 : PySem.W.nsIn K mainGlobals "_law_bad" = some (some (.ref f10)))
    (l10 : K.lookup f10 = some ⟨oc10, od10, .func (PySem.W.fnOf "_law_bad" "_law_bad" (defArgs st__law_bad) (defBody st__law_bad) (defScope st__law_bad) .none kV10 dc10 pm10 an10 cd10 ct10), sl10⟩)
    (c10 : PySem.W.codeIn K cd10 "_law_bad" = true)
    (k10 : PySem.W.keepIn K (.ref f10) = true)
    (a11 : PySem.W.nsIn K mainGlobals "_law_fitting" = some (some (.ref f11)))
    (l11 : K.lookup f11 = some ⟨oc11, od11, .func (PySem.W.fnOf "_law_fitting" "_law_fitting" (defArgs st__law_fitting) (defBody st__law_fitting) (defScope st__law_fitting) .none kV11 dc11 pm11 an11 cd11 ct11), sl11⟩)
    (c11 : PySem.W.codeIn K cd11 "_law_fitting" = true)
    (k11 : PySem.W.keepIn K (.ref f11) = true)
    (a12 : PySem.W.nsIn K mainGlobals "_law_below" = some (some (.ref f12)))
    (l12 : K.lookup f12 = some ⟨oc12, od12, .func (PySem.W.fnOf "_law_below" "_law_below" (defArgs st__law_below) (defBody st__law_below) (defScope st__law_below) .none kV12 dc12 pm12 an12 cd12 ct12), sl12⟩)
    (c12 : PySem.W.codeIn K cd12 "_law_below" = true)
    (k12 : PySem.W.keepIn K (.ref f12) = true)
    (a13 : PySem.W.nsIn K mainGlobals "_law_turn_costs" = some (some (.ref f13)))
    (l13 : K.lookup f13 = some ⟨oc13, od13, .func (PySem.W.fnOf "_law_turn_costs" "_law_turn_costs" (defArgs st__law_turn_costs) (defBody st__law_turn_costs) (defScope st__law_turn_costs) .none kV13 dc13 pm13 an13 cd13 ct13), sl13⟩)
    (c13 : PySem.W.codeIn K cd13 "_law_turn_costs" = true)
    (k13 : PySem.W.keepIn K (.ref f13) = true)
    (a14 : PySem.W.nsIn K mainGlobals "_law_steps" = some (some (.ref f14)))
    (l14 : K.lookup f14 = some ⟨oc14, od14, .func (PySem.W.fnOf "_law_steps" "_law_steps" (defArgs st__law_steps) (defBody st__law_steps) (defScope st__law_steps) .none kV14 dc14 pm14 an14 cd14 ct14), sl14⟩)
    (c14 : PySem.W.codeIn K cd14 "_law_steps" = true)
    (k14 : PySem.W.keepIn K (.ref f14) = true)
    (a15 : PySem.W.nsIn K mainGlobals "_law_least" = some (some (.ref f15)))
    (l15 : K.lookup f15 = some ⟨oc15, od15, .func (PySem.W.fnOf "_law_least" "_law_least" (defArgs st__law_least) (defBody st__law_least) (defScope st__law_least) .none kV15 dc15 pm15 an15 cd15 ct15), sl15⟩)
    (c15 : PySem.W.codeIn K cd15 "_law_least" = true)
    (k15 : PySem.W.keepIn K (.ref f15) = true)
    (a16 : PySem.W.findIn K (.ref CPages) "places" = some (some (.ref f16)))
    (i16 : PySem.W.isFn K (.ref f16) = true)
    (l16 : K.lookup f16 = some ⟨oc16, od16, .func (PySem.W.fnOf "places" "Pages.places" (defArgs st_Pages_places) (defBody st_Pages_places) (defScope st_Pages_places) .none kV16 dc16 pm16 an16 cd16 ct16), sl16⟩)
    (c16 : PySem.W.codeIn K cd16 "Pages.places" = true)
    (k16 : PySem.W.keepIn K (.ref f16) = true)
    (a17 : PySem.W.findIn K (.ref CPages) "turn" = some (some (.ref f17)))
    (i17 : PySem.W.isFn K (.ref f17) = true)
    (l17 : K.lookup f17 = some ⟨oc17, od17, .func (PySem.W.fnOf "turn" "Pages.turn" (defArgs st_Pages_turn) (defBody st_Pages_turn) (defScope st_Pages_turn) .none kV17 dc17 pm17 an17 cd17 ct17), sl17⟩)
    (c17 : PySem.W.codeIn K cd17 "Pages.turn" = true)
    (k17 : PySem.W.keepIn K (.ref f17) = true)
    (a18 : PySem.W.findIn K (.ref CPages) "by_lines" = some (some (.ref f18)))
    (i18 : PySem.W.isFn K (.ref f18) = true)
    (l18 : K.lookup f18 = some ⟨oc18, od18, .func (PySem.W.fnOf "by_lines" "Pages.by_lines" (defArgs st_Pages_by_lines) (defBody st_Pages_by_lines) (defScope st_Pages_by_lines) .none kV18 dc18 pm18 an18 cd18 ct18), sl18⟩)
    (c18 : PySem.W.codeIn K cd18 "Pages.by_lines" = true)
    (k18 : PySem.W.keepIn K (.ref f18) = true)
    (a19 : PySem.W.findIn K (.ref CPages) "following" = some (some (.ref f19)))
    (i19 : PySem.W.isFn K (.ref f19) = true)
    (l19 : K.lookup f19 = some ⟨oc19, od19, .func (PySem.W.fnOf "following" "Pages.following" (defArgs st_Pages_following) (defBody st_Pages_following) (defScope st_Pages_following) .none kV19 dc19 pm19 an19 cd19 ct19), sl19⟩)
    (c19 : PySem.W.codeIn K cd19 "Pages.following" = true)
    (k19 : PySem.W.keepIn K (.ref f19) = true)
    (a20 : PySem.W.nsIn K mainGlobals "best_behind" = some (some (.ref f20)))
    (l20 : K.lookup f20 = some ⟨oc20, od20, .func (PySem.W.fnOf "best_behind" "best_behind" (defArgs st_best_behind) (defBody st_best_behind) (defScope st_best_behind) .none kV20 dc20 pm20 an20 cd20 ct20), sl20⟩)
    (c20 : PySem.W.codeIn K cd20 "best_behind" = true)
    (k20 : PySem.W.keepIn K (.ref f20) = true)
    (a21 : PySem.W.nsIn K mainGlobals "is_fraction" = some (some (.ref f21)))
    (l21 : K.lookup f21 = some ⟨oc21, od21, .func (PySem.W.fnOf "is_fraction" "is_fraction" (defArgs st_is_fraction) (defBody st_is_fraction) (defScope st_is_fraction) .none kV21 dc21 pm21 an21 cd21 ct21), sl21⟩)
    (c21 : PySem.W.codeIn K cd21 "is_fraction" = true)
    (k21 : PySem.W.keepIn K (.ref f21) = true)
    (a22 : PySem.W.nsIn K mainGlobals "is_part" = some (some (.ref f22)))
    (l22 : K.lookup f22 = some ⟨oc22, od22, .func (PySem.W.fnOf "is_part" "is_part" (defArgs st_is_part) (defBody st_is_part) (defScope st_is_part) .none kV22 dc22 pm22 an22 cd22 ct22), sl22⟩)
    (c22 : PySem.W.codeIn K cd22 "is_part" = true)
    (k22 : PySem.W.keepIn K (.ref f22) = true)
    (a23 : PySem.W.nsIn K mainGlobals "is_piece" = some (some (.ref f23)))
    (l23 : K.lookup f23 = some ⟨oc23, od23, .func (PySem.W.fnOf "is_piece" "is_piece" (defArgs st_is_piece) (defBody st_is_piece) (defScope st_is_piece) .none kV23 dc23 pm23 an23 cd23 ct23), sl23⟩)
    (c23 : PySem.W.codeIn K cd23 "is_piece" = true)
    (k23 : PySem.W.keepIn K (.ref f23) = true)
    (a24 : PySem.W.nsIn K mainGlobals "check_pieces" = some (some (.ref f24)))
    (l24 : K.lookup f24 = some ⟨oc24, od24, .func (PySem.W.fnOf "check_pieces" "check_pieces" (defArgs st_check_pieces) (defBody st_check_pieces) (defScope st_check_pieces) .none kV24 dc24 pm24 an24 cd24 ct24), sl24⟩)
    (c24 : PySem.W.codeIn K cd24 "check_pieces" = true)
    (k24 : PySem.W.keepIn K (.ref f24) = true)
    (a25 : PySem.W.findIn K (.ref CLines) "__init__" = some (some (.ref f25)))
    (i25 : PySem.W.isFn K (.ref f25) = true)
    (l25 : K.lookup f25 = some ⟨oc25, od25, .func (PySem.W.fnOf "__init__" "Lines.__init__" (defArgs st_Lines) (defBody st_Lines) (defScope st_Lines) .none kV25 dc25 pm25 an25 cd25 ct25), sl25⟩)
    (c25 : PySem.W.codeIn K cd25 "Lines.__init__" = true)
    (k25 : PySem.W.keepIn K (.ref f25) = true)
    (a26 : PySem.W.findIn K (.ref CLines) "badness" = some (some (.ref f26)))
    (i26 : PySem.W.isFn K (.ref f26) = true)
    (l26 : K.lookup f26 = some ⟨oc26, od26, .func (PySem.W.fnOf "badness" "Lines.badness" (defArgs st_Lines_badness) (defBody st_Lines_badness) (defScope st_Lines_badness) .none kV26 dc26 pm26 an26 cd26 ct26), sl26⟩)
    (c26 : PySem.W.codeIn K cd26 "Lines.badness" = true)
    (k26 : PySem.W.keepIn K (.ref f26) = true)
    (a27 : PySem.W.findIn K (.ref CLines) "from_piece" = some (some (.ref f27)))
    (i27 : PySem.W.isFn K (.ref f27) = true)
    (l27 : K.lookup f27 = some ⟨oc27, od27, .func (PySem.W.fnOf "from_piece" "Lines.from_piece" (defArgs st_Lines_from_piece) (defBody st_Lines_from_piece) (defScope st_Lines_from_piece) .none kV27 dc27 pm27 an27 cd27 ct27), sl27⟩)
    (c27 : PySem.W.codeIn K cd27 "Lines.from_piece" = true)
    (k27 : PySem.W.keepIn K (.ref f27) = true)
    (a28 : PySem.W.nsIn K mainGlobals "is_whole" = some (some (.ref f28)))
    (l28 : K.lookup f28 = some ⟨oc28, od28, .func (PySem.W.fnOf "is_whole" "is_whole" (defArgs st_is_whole) (defBody st_is_whole) (defScope st_is_whole) .none kV28 dc28 pm28 an28 cd28 ct28), sl28⟩)
    (c28 : PySem.W.codeIn K cd28 "is_whole" = true)
    (k28 : PySem.W.keepIn K (.ref f28) = true)
    (a29 : PySem.W.nsIn K mainGlobals "is_number" = some (some (.ref f29)))
    (l29 : K.lookup f29 = some ⟨oc29, od29, .func (PySem.W.fnOf "is_number" "is_number" (defArgs st_is_number) (defBody st_is_number) (defScope st_is_number) .none kV29 dc29 pm29 an29 cd29 ct29), sl29⟩)
    (c29 : PySem.W.codeIn K cd29 "is_number" = true)
    (k29 : PySem.W.keepIn K (.ref f29) = true)
    (a30 : PySem.W.findIn K (.ref CPages) "__init__" = some (some (.ref f30)))
    (i30 : PySem.W.isFn K (.ref f30) = true)
    (l30 : K.lookup f30 = some ⟨oc30, od30, .func (PySem.W.fnOf "__init__" "Pages.__init__" (defArgs st_Pages) (defBody st_Pages) (defScope st_Pages) .none kV30 dc30 pm30 an30 cd30 ct30), sl30⟩)
    (c30 : PySem.W.codeIn K cd30 "Pages.__init__" = true)
    (k30 : PySem.W.keepIn K (.ref f30) = true)
    (a31 : PySem.W.nsIn K mainGlobals "best_pages" = some (some (.ref f31)))
    (l31 : K.lookup f31 = some ⟨oc31, od31, .func (PySem.W.fnOf "best_pages" "best_pages" (defArgs st_best_pages) (defBody st_best_pages) (defScope st_best_pages) .none kV31 dc31 pm31 an31 cd31 ct31), sl31⟩)
    (c31 : PySem.W.codeIn K cd31 "best_pages" = true)
    (k31 : PySem.W.keepIn K (.ref f31) = true)
    (a32 : PySem.W.nsIn K mainGlobals "_law_divisor" = some (some (.ref f32)))
    (l32 : K.lookup f32 = some ⟨oc32, od32, .func (PySem.W.fnOf "_law_divisor" "_law_divisor" (defArgs st__law_divisor) (defBody st__law_divisor) (defScope st__law_divisor) .none kV32 dc32 pm32 an32 cd32 ct32), sl32⟩)
    (c32 : PySem.W.codeIn K cd32 "_law_divisor" = true)
    (k32 : PySem.W.keepIn K (.ref f32) = true)
    (a33 : PySem.W.nsIn K mainGlobals "_law_scaled" = some (some (.ref f33)))
    (l33 : K.lookup f33 = some ⟨oc33, od33, .func (PySem.W.fnOf "_law_scaled" "_law_scaled" (defArgs st__law_scaled) (defBody st__law_scaled) (defScope st__law_scaled) .none kV33 dc33 pm33 an33 cd33 ct33), sl33⟩)
    (c33 : PySem.W.codeIn K cd33 "_law_scaled" = true)
    (k33 : PySem.W.keepIn K (.ref f33) = true)
    (a34 : PySem.W.nsIn K mainGlobals "_law_is_integer" = some (some (.ref f34)))
    (l34 : K.lookup f34 = some ⟨oc34, od34, .func (PySem.W.fnOf "_law_is_integer" "_law_is_integer" (defArgs st__law_is_integer) (defBody st__law_is_integer) (defScope st__law_is_integer) .none kV34 dc34 pm34 an34 cd34 ct34), sl34⟩)
    (c34 : PySem.W.codeIn K cd34 "_law_is_integer" = true)
    (k34 : PySem.W.keepIn K (.ref f34) = true)
    (a35 : PySem.W.nsIn K mainGlobals "_law_same" = some (some (.ref f35)))
    (l35 : K.lookup f35 = some ⟨oc35, od35, .func (PySem.W.fnOf "_law_same" "_law_same" (defArgs st__law_same) (defBody st__law_same) (defScope st__law_same) .none kV35 dc35 pm35 an35 cd35 ct35), sl35⟩)
    (c35 : PySem.W.codeIn K cd35 "_law_same" = true)
    (k35 : PySem.W.keepIn K (.ref f35) = true)
    (a36 : PySem.W.nsIn K mainGlobals "page_potentials" = some (some (.ref f36)))
    (l36 : K.lookup f36 = some ⟨oc36, od36, .func (PySem.W.fnOf "page_potentials" "page_potentials" (defArgs st_page_potentials) (defBody st_page_potentials) (defScope st_page_potentials) .none kV36 dc36 pm36 an36 cd36 ct36), sl36⟩)
    (c36 : PySem.W.codeIn K cd36 "page_potentials" = true)
    (k36 : PySem.W.keepIn K (.ref f36) = true)
    (a37 : PySem.W.nsIn K mainGlobals "_law_listed" = some (some (.ref f37)))
    (l37 : K.lookup f37 = some ⟨oc37, od37, .func (PySem.W.fnOf "_law_listed" "_law_listed" (defArgs st__law_listed) (defBody st__law_listed) (defScope st__law_listed) .none kV37 dc37 pm37 an37 cd37 ct37), sl37⟩)
    (c37 : PySem.W.codeIn K cd37 "_law_listed" = true)
    (k37 : PySem.W.keepIn K (.ref f37) = true)
    (a38 : PySem.W.nsIn K mainGlobals "_law_given" = some (some (.ref f38)))
    (l38 : K.lookup f38 = some ⟨oc38, od38, .func (PySem.W.fnOf "_law_given" "_law_given" (defArgs st__law_given) (defBody st__law_given) (defScope st__law_given) .none kV38 dc38 pm38 an38 cd38 ct38), sl38⟩)
    (c38 : PySem.W.codeIn K cd38 "_law_given" = true)
    (k38 : PySem.W.keepIn K (.ref f38) = true)
    (a39 : PySem.W.nsIn K mainGlobals "_law_other" = some (some (.ref f39)))
    (l39 : K.lookup f39 = some ⟨oc39, od39, .func (PySem.W.fnOf "_law_other" "_law_other" (defArgs st__law_other) (defBody st__law_other) (defScope st__law_other) .none kV39 dc39 pm39 an39 cd39 ct39), sl39⟩)
    (c39 : PySem.W.codeIn K cd39 "_law_other" = true)
    (k39 : PySem.W.keepIn K (.ref f39) = true)
    (a40 : PySem.W.nsIn K mainGlobals "_law_spoilt" = some (some (.ref f40)))
    (l40 : K.lookup f40 = some ⟨oc40, od40, .func (PySem.W.fnOf "_law_spoilt" "_law_spoilt" (defArgs st__law_spoilt) (defBody st__law_spoilt) (defScope st__law_spoilt) .none kV40 dc40 pm40 an40 cd40 ct40), sl40⟩)
    (c40 : PySem.W.codeIn K cd40 "_law_spoilt" = true)
    (k40 : PySem.W.keepIn K (.ref f40) = true)
    (a41 : PySem.W.nsIn K mainGlobals "_law_order" = some (some (.ref f41)))
    (l41 : K.lookup f41 = some ⟨oc41, od41, .func (PySem.W.fnOf "_law_order" "_law_order" (defArgs st__law_order) (defBody st__law_order) (defScope st__law_order) .none kV41 dc41 pm41 an41 cd41 ct41), sl41⟩)
    (c41 : PySem.W.codeIn K cd41 "_law_order" = true)
    (k41 : PySem.W.keepIn K (.ref f41) = true)
    (a42 : PySem.W.nsIn K mainGlobals "_law_mixed" = some (some (.ref f42)))
    (l42 : K.lookup f42 = some ⟨oc42, od42, .func (PySem.W.fnOf "_law_mixed" "_law_mixed" (defArgs st__law_mixed) (defBody st__law_mixed) (defScope st__law_mixed) .none kV42 dc42 pm42 an42 cd42 ct42), sl42⟩)
    (c42 : PySem.W.codeIn K cd42 "_law_mixed" = true)
    (k42 : PySem.W.keepIn K (.ref f42) = true)
    (a43 : PySem.W.nsIn K mainGlobals "_law_shows" = some (some (.ref f43)))
    (l43 : K.lookup f43 = some ⟨oc43, od43, .func (PySem.W.fnOf "_law_shows" "_law_shows" (defArgs st__law_shows) (defBody st__law_shows) (defScope st__law_shows) .none kV43 dc43 pm43 an43 cd43 ct43), sl43⟩)
    (c43 : PySem.W.codeIn K cd43 "_law_shows" = true)
    (k43 : PySem.W.keepIn K (.ref f43) = true)
    (a44 : PySem.W.nsIn K mainGlobals "_law_misshapen" = some (some (.ref f44)))
    (l44 : K.lookup f44 = some ⟨oc44, od44, .func (PySem.W.fnOf "_law_misshapen" "_law_misshapen" (defArgs st__law_misshapen) (defBody st__law_misshapen) (defScope st__law_misshapen) .none kV44 dc44 pm44 an44 cd44 ct44), sl44⟩)
    (c44 : PySem.W.codeIn K cd44 "_law_misshapen" = true)
    (k44 : PySem.W.keepIn K (.ref f44) = true)
    (a45 : PySem.W.nsIn K mainGlobals "are_priced" = some (some (.ref f45)))
    (l45 : K.lookup f45 = some ⟨oc45, od45, .func (PySem.W.fnOf "are_priced" "are_priced" (defArgs st_are_priced) (defBody st_are_priced) (defScope st_are_priced) .none kV45 dc45 pm45 an45 cd45 ct45), sl45⟩)
    (c45 : PySem.W.codeIn K cd45 "are_priced" = true)
    (k45 : PySem.W.keepIn K (.ref f45) = true)
    (a46 : PySem.W.nsIn K mainGlobals "shows_pages" = some (some (.ref f46)))
    (l46 : K.lookup f46 = some ⟨oc46, od46, .func (PySem.W.fnOf "shows_pages" "shows_pages" (defArgs st_shows_pages) (defBody st_shows_pages) (defScope st_shows_pages) .none kV46 dc46 pm46 an46 cd46 ct46), sl46⟩)
    (c46 : PySem.W.codeIn K cd46 "shows_pages" = true)
    (k46 : PySem.W.keepIn K (.ref f46) = true)
    (a47 : PySem.W.nsIn K mainGlobals "law" = some (some (.ref f47)))
    (l47 : K.lookup f47 = some ⟨oc47, od47, .func (PySem.W.fnOf "law" "law" (defArgs st_law) (defBody st_law) (defScope st_law) .none kV47 dc47 pm47 an47 cd47 ct47), sl47⟩)
    (c47 : PySem.W.codeIn K cd47 "law" = true)
    (k47 : PySem.W.keepIn K (.ref f47) = true)
    (pgLines : PySem.W.plainGet K CLines Str.empty = true)
    (hdLines : PySem.W.hasDictIn K CLines = true)
    (poLines : PySem.W.plainOver K CLines = true)
    (saLines : PySem.W.findIn K (.ref CLines) "__setattr__" = some (some (.builtin "object.__setattr__")))
    (mkLines : PySem.W.makesIn K CLines = true)
    (kcLines : PySem.W.keepIn K (.ref CLines) = true)
    (naLinesmany : PySem.W.findIn K (.ref CLines) "many" = some none)
    (naLinesroom : PySem.W.findIn K (.ref CLines) "room" = some none)
    (naLines_sums : PySem.W.findIn K (.ref CLines) "_sums" = some none)
    (pgPages : PySem.W.plainGet K CPages Str.empty = true)
    (hdPages : PySem.W.hasDictIn K CPages = true)
    (poPages : PySem.W.plainOver K CPages = true)
    (saPages : PySem.W.findIn K (.ref CPages) "__setattr__" = some (some (.builtin "object.__setattr__")))
    (mkPages : PySem.W.makesIn K CPages = true)
    (kcPages : PySem.W.keepIn K (.ref CPages) = true)
    (naPageslines : PySem.W.findIn K (.ref CPages) "lines" = some none)
    (naPagesmany : PySem.W.findIn K (.ref CPages) "many" = some none)
    (naPagesturns : PySem.W.findIn K (.ref CPages) "turns" = some none)
    (naPagesleast : PySem.W.findIn K (.ref CPages) "least" = some none)
    (naPagesmost : PySem.W.findIn K (.ref CPages) "most" = some none)
    (naPages_from : PySem.W.findIn K (.ref CPages) "_from" = some none)
    (bgcd : PySem.W.nsIn K mainGlobals "gcd" = some (some (.builtin "math.gcd")))
    (blcm : PySem.W.nsIn K mainGlobals "lcm" = some (some (.builtin "math.lcm")))
    (vMOST_BOTTOM : PySem.W.nsIn K mainGlobals "MOST_BOTTOM" = some (some (.int 1000 tMOST_BOTTOM)))
    (vMOST_LINES : PySem.W.nsIn K mainGlobals "MOST_LINES" = some (some (.int 12 tMOST_LINES)))
    (vMOST_PIECES : PySem.W.nsIn K mainGlobals "MOST_PIECES" = some (some (.int 400 tMOST_PIECES)))
    (vMOST_TOP : PySem.W.nsIn K mainGlobals "MOST_TOP" = some (some (.int 1000000 tMOST_TOP)))
    (vMOST_TURN : PySem.W.nsIn K mainGlobals "MOST_TURN" = some (some (.int 1000000000 tMOST_TURN)))
    (vSCALE : PySem.W.nsIn K mainGlobals "SCALE" = some (some (.int 1000 tSCALE)))
    (nabs : PySem.W.nsIn K mainGlobals "abs" = some none)
    (nall : PySem.W.nsIn K mainGlobals "all" = some none)
    (nany : PySem.W.nsIn K mainGlobals "any" = some none)
    (nbool : PySem.W.nsIn K mainGlobals "bool" = some none)
    (ndict : PySem.W.nsIn K mainGlobals "dict" = some none)
    (nenumerate : PySem.W.nsIn K mainGlobals "enumerate" = some none)
    (nint : PySem.W.nsIn K mainGlobals "int" = some none)
    (nisinstance : PySem.W.nsIn K mainGlobals "isinstance" = some none)
    (nlen : PySem.W.nsIn K mainGlobals "len" = some none)
    (nlist : PySem.W.nsIn K mainGlobals "list" = some none)
    (nmin : PySem.W.nsIn K mainGlobals "min" = some none)
    (nrange : PySem.W.nsIn K mainGlobals "range" = some none)
    (nsorted : PySem.W.nsIn K mainGlobals "sorted" = some none)
    (nstr : PySem.W.nsIn K mainGlobals "str" = some none)
    (ntuple : PySem.W.nsIn K mainGlobals "tuple" = some none)
    : ∃ fd : FuncData, (∀ (s : Shared) (v : Value), BindsTo s fd ⟨[v], []⟩ [("script", v)]) ∧ ∀ base : Heap, K.In base → base.Ns mainGlobals mg → FnOk P w K mg base CX0 10 fa fd ["script"] (spLaw K) := by
  have e := hfa.symm.trans (PySem.W.mg_of X G a47)
  cases e
  have F1 := fun_mk (st := st__law_pool) l1 c1 k1
  have F2 := fun_mk (st := st__law_take) l2 c2 k2
  have F3 := fun_mk (st := st__law_pick) l3 c3 k3
  have F4 := fun_mk (st := st__law_amounts) l4 c4 k4
  have F5 := fun_mk (st := st__law_lowest) l5 c5 k5
  have F6 := fun_mk (st := st__law_piece) l6 c6 k6
  have F7 := fun_mk (st := st__law_pieces) l7 c7 k7
  have F8 := fun_mk (st := st__law_sum) l8 c8 k8
  have F9 := fun_mk (st := st__law_room) l9 c9 k9
  have F10 := fun_mk (st := st__law_bad) l10 c10 k10
  have F11 := fun_mk (st := st__law_fitting) l11 c11 k11
  have F12 := fun_mk (st := st__law_below) l12 c12 k12
  have F13 := fun_mk (st := st__law_turn_costs) l13 c13 k13
  have F14 := fun_mk (st := st__law_steps) l14 c14 k14
  have F15 := fun_mk (st := st__law_least) l15 c15 k15
  have F16 := fun_mk (st := st_Pages_places) l16 c16 k16
  have F17 := fun_mk (st := st_Pages_turn) l17 c17 k17
  have F18 := fun_mk (st := st_Pages_by_lines) l18 c18 k18
  have F19 := fun_mk (st := st_Pages_following) l19 c19 k19
  have F20 := fun_mk (st := st_best_behind) l20 c20 k20
  have F21 := fun_mk (st := st_is_fraction) l21 c21 k21
  have F22 := fun_mk (st := st_is_part) l22 c22 k22
  have F23 := fun_mk (st := st_is_piece) l23 c23 k23
  have F24 := fun_mk (st := st_check_pieces) l24 c24 k24
  have F25 := fun_mk (st := st_Lines) l25 c25 k25
  have F26 := fun_mk (st := st_Lines_badness) l26 c26 k26
  have F27 := fun_mk (st := st_Lines_from_piece) l27 c27 k27
  have F28 := fun_mk (st := st_is_whole) l28 c28 k28
  have F29 := fun_mk (st := st_is_number) l29 c29 k29
  have F30 := fun_mk (st := st_Pages) l30 c30 k30
  have F31 := fun_mk (st := st_best_pages) l31 c31 k31
  have F32 := fun_mk (st := st__law_divisor) l32 c32 k32
  have F33 := fun_mk (st := st__law_scaled) l33 c33 k33
  have F34 := fun_mk (st := st__law_is_integer) l34 c34 k34
  have F35 := fun_mk (st := st__law_same) l35 c35 k35
  have F36 := fun_mk (st := st_page_potentials) l36 c36 k36
  have F37 := fun_mk (st := st__law_listed) l37 c37 k37
  have F38 := fun_mk (st := st__law_given) l38 c38 k38
  have F39 := fun_mk (st := st__law_other) l39 c39 k39
  have F40 := fun_mk (st := st__law_spoilt) l40 c40 k40
  have F41 := fun_mk (st := st__law_order) l41 c41 k41
  have F42 := fun_mk (st := st__law_mixed) l42 c42 k42
  have F43 := fun_mk (st := st__law_shows) l43 c43 k43
  have F44 := fun_mk (st := st__law_misshapen) l44 c44 k44
  have F45 := fun_mk (st := st_are_priced) l45 c45 k45
  have F46 := fun_mk (st := st_shows_pages) l46 c46 k46
  have F47 := fun_mk (st := st_law) l47 c47 k47
  obtain ⟨cl, hLines, hPages⟩ : ∃ cl : Str → Addr, cl "Lines" = CLines ∧ cl "Pages" = CPages := ⟨fun c => if c = "Lines" then CLines else CPages, if_pos rfl, if_neg (by decide +kernel)⟩
  have T : Txt K mg cl := by
    constructor
    · exact PySem.W.mg_of X G bgcd
    · exact PySem.W.mg_of X G blcm
    · exact ⟨_, PySem.W.mg_of X G vMOST_BOTTOM⟩
    · exact ⟨_, PySem.W.mg_of X G vMOST_LINES⟩
    · exact ⟨_, PySem.W.mg_of X G vMOST_PIECES⟩
    · exact ⟨_, PySem.W.mg_of X G vMOST_TOP⟩
    · exact ⟨_, PySem.W.mg_of X G vMOST_TURN⟩
    · exact ⟨_, PySem.W.mg_of X G vSCALE⟩
    · exact PySem.W.mg_none_of X G nabs
    · exact PySem.W.mg_none_of X G nall
    · exact PySem.W.mg_none_of X G nany
    · exact PySem.W.mg_none_of X G nbool
    · exact PySem.W.mg_none_of X G ndict
    · exact PySem.W.mg_none_of X G nenumerate
    · exact PySem.W.mg_none_of X G nint
    · exact PySem.W.mg_none_of X G nisinstance
    · exact PySem.W.mg_none_of X G nlen
    · exact PySem.W.mg_none_of X G nlist
    · exact PySem.W.mg_none_of X G nmin
    · exact PySem.W.mg_none_of X G nrange
    · exact PySem.W.mg_none_of X G nsorted
    · exact PySem.W.mg_none_of X G nstr
    · exact PySem.W.mg_none_of X G ntuple
    · exact ⟨⟨_, _, F1, PySem.W.mg_of X G a1⟩⟩
    · exact ⟨⟨_, _, F2, PySem.W.mg_of X G a2⟩⟩
    · exact ⟨⟨_, _, F3, PySem.W.mg_of X G a3⟩⟩
    · exact ⟨⟨_, _, F4, PySem.W.mg_of X G a4⟩⟩
    · exact ⟨⟨_, _, F5, PySem.W.mg_of X G a5⟩⟩
    · exact ⟨⟨_, _, F6, PySem.W.mg_of X G a6⟩⟩
    · exact ⟨⟨_, _, F7, PySem.W.mg_of X G a7⟩⟩
    · exact ⟨⟨_, _, F8, PySem.W.mg_of X G a8⟩⟩
    · exact ⟨⟨_, _, F9, PySem.W.mg_of X G a9⟩⟩
    · exact ⟨⟨_, _, F10, PySem.W.mg_of X G a10⟩⟩
    · exact ⟨⟨_, _, F11, PySem.W.mg_of X G a11⟩⟩
    · exact ⟨⟨_, _, F12, PySem.W.mg_of X G a12⟩⟩
    · exact ⟨⟨_, _, F13, PySem.W.mg_of X G a13⟩⟩
    · exact ⟨⟨_, _, F14, PySem.W.mg_of X G a14⟩⟩
    · exact ⟨⟨_, _, F15, PySem.W.mg_of X G a15⟩⟩
    · rw [hPages]; exact ⟨⟨_, _, F16, ⟨a16, i16, k16⟩⟩⟩
    · rw [hPages]; exact ⟨⟨_, _, F17, ⟨a17, i17, k17⟩⟩⟩
    · rw [hPages]; exact ⟨⟨_, _, F18, ⟨a18, i18, k18⟩⟩⟩
    · rw [hPages]; exact ⟨⟨_, _, F19, ⟨a19, i19, k19⟩⟩⟩
    · exact ⟨⟨_, _, F20, PySem.W.mg_of X G a20⟩⟩
    · exact ⟨⟨_, _, F21, PySem.W.mg_of X G a21⟩⟩
    · exact ⟨⟨_, _, F22, PySem.W.mg_of X G a22⟩⟩
    · exact ⟨⟨_, _, F23, PySem.W.mg_of X G a23⟩⟩
    · exact ⟨⟨_, _, F24, PySem.W.mg_of X G a24⟩⟩
    · rw [hLines]; exact ⟨⟨_, _, F25, ⟨mkLines, a25, i25, kcLines⟩, PySem.W.mg_of X G aCLines⟩⟩
    · rw [hLines]; exact ⟨⟨_, _, F26, ⟨a26, i26, k26⟩⟩⟩
    · rw [hLines]; exact ⟨⟨_, _, F27, ⟨a27, i27, k27⟩⟩⟩
    · exact ⟨⟨_, _, F28, PySem.W.mg_of X G a28⟩⟩
    · exact ⟨⟨_, _, F29, PySem.W.mg_of X G a29⟩⟩
    · rw [hPages]; exact ⟨⟨_, _, F30, ⟨mkPages, a30, i30, kcPages⟩, PySem.W.mg_of X G aCPages⟩⟩
    · exact ⟨⟨_, _, F31, PySem.W.mg_of X G a31⟩⟩
    · exact ⟨⟨_, _, F32, PySem.W.mg_of X G a32⟩⟩
    · exact ⟨⟨_, _, F33, PySem.W.mg_of X G a33⟩⟩
    · exact ⟨⟨_, _, F34, PySem.W.mg_of X G a34⟩⟩
    · exact ⟨⟨_, _, F35, PySem.W.mg_of X G a35⟩⟩
    · exact ⟨⟨_, _, F36, PySem.W.mg_of X G a36⟩⟩
    · exact ⟨⟨_, _, F37, PySem.W.mg_of X G a37⟩⟩
    · exact ⟨⟨_, _, F38, PySem.W.mg_of X G a38⟩⟩
    · exact ⟨⟨_, _, F39, PySem.W.mg_of X G a39⟩⟩
    · exact ⟨⟨_, _, F40, PySem.W.mg_of X G a40⟩⟩
    · exact ⟨⟨_, _, F41, PySem.W.mg_of X G a41⟩⟩
    · exact ⟨⟨_, _, F42, PySem.W.mg_of X G a42⟩⟩
    · exact ⟨⟨_, _, F43, PySem.W.mg_of X G a43⟩⟩
    · exact ⟨⟨_, _, F44, PySem.W.mg_of X G a44⟩⟩
    · exact ⟨⟨_, _, F45, PySem.W.mg_of X G a45⟩⟩
    · exact ⟨⟨_, _, F46, PySem.W.mg_of X G a46⟩⟩
    · exact ⟨⟨_, _, F47, PySem.W.mg_of X G a47⟩⟩
    · rw [hLines]; exact ⟨pgLines, hdLines, poLines, saLines⟩
    · rw [hLines]; exact naLinesmany
    · rw [hLines]; exact naLinesroom
    · rw [hLines]; exact naLines_sums
    · rw [hPages]; exact ⟨pgPages, hdPages, poPages, saPages⟩
    · rw [hPages]; exact naPageslines
    · rw [hPages]; exact naPagesmany
    · rw [hPages]; exact naPagesturns
    · rw [hPages]; exact naPagesleast
    · rw [hPages]; exact naPagesmost
    · rw [hPages]; exact naPages_from
  exact ⟨_, fun s v => .of_eq rfl, fun base _ _ => (k_law T F47).imp spLaw_of⟩
end K77
open PySem PySem.W PyProof.Rows
set_option maxHeartbeats 0 in
theorem PySem.Challenge.cw_counterheld_k77_whole_page_potentials_holds : PySem.Challenge.rw_counterheld_k77_whole_page_potentials.Holds := by
  w_on; o_law; k_head; (case hw => w_witness2)
  k_fill
  refine L2.walk_of (l := PySem.Challenge.rw_counterheld_k77_whole_page_potentials) (n := 63) (k := 10) (x := "script") (CX := fun _ => L2.CX0) (sp := fun w => K77.spLaw _) rfl (by decide) rfl ⟨rfl, by decide, by decide⟩ (fun w h Y => PySem.W.kIn_of Y) ?F (fun _ _ a ns hl _ hS => ⟨a, ns, rfl, hS, hl, fun _ => rfl⟩) (fun _ _ _ _ _ h => h)
  case F =>
    intro w mg fa h KX G hmg
    refine' K77.all_mk KX G hmg ?aCLines ?aCPages ?a1 ?l1 ?c1 ?k1 ?a2 ?l2 ?c2 ?k2 ?a3 ?l3 ?c3 ?k3 ?a4 ?l4 ?c4 ?k4 ?a5 ?l5 ?c5 ?k5 ?a6 ?l6 ?c6 ?k6 ?a7 ?l7 ?c7 ?k7 ?a8 ?l8 ?c8 ?k8 ?a9 ?l9 ?c9 ?k9 ?a10 ?l10 ?c10 ?k10 ?a11 ?l11 ?c11 ?k11 ?a12 ?l12 ?c12 ?k12 ?a13 ?l13 ?c13 ?k13 ?a14 ?l14 ?c14 ?k14 ?a15 ?l15 ?c15 ?k15 ?a16 ?i16 ?l16 ?c16 ?k16 ?a17 ?i17 ?l17 ?c17 ?k17 ?a18 ?i18 ?l18 ?c18 ?k18 ?a19 ?i19 ?l19 ?c19 ?k19 ?a20 ?l20 ?c20 ?k20 ?a21 ?l21 ?c21 ?k21 ?a22 ?l22 ?c22 ?k22 ?a23 ?l23 ?c23 ?k23 ?a24 ?l24 ?c24 ?k24 ?a25 ?i25 ?l25 ?c25 ?k25 ?a26 ?i26 ?l26 ?c26 ?k26 ?a27 ?i27 ?l27 ?c27 ?k27 ?a28 ?l28 ?c28 ?k28 ?a29 ?l29 ?c29 ?k29 ?a30 ?i30 ?l30 ?c30 ?k30 ?a31 ?l31 ?c31 ?k31 ?a32 ?l32 ?c32 ?k32 ?a33 ?l33 ?c33 ?k33 ?a34 ?l34 ?c34 ?k34 ?a35 ?l35 ?c35 ?k35 ?a36 ?l36 ?c36 ?k36 ?a37 ?l37 ?c37 ?k37 ?a38 ?l38 ?c38 ?k38 ?a39 ?l39 ?c39 ?k39 ?a40 ?l40 ?c40 ?k40 ?a41 ?l41 ?c41 ?k41 ?a42 ?l42 ?c42 ?k42 ?a43 ?l43 ?c43 ?k43 ?a44 ?l44 ?c44 ?k44 ?a45 ?l45 ?c45 ?k45 ?a46 ?l46 ?c46 ?k46 ?a47 ?l47 ?c47 ?k47 ?pgLines ?hdLines ?poLines ?saLines ?mkLines ?kcLines ?naLinesmany ?naLinesroom ?naLines_sums ?pgPages ?hdPages ?poPages ?saPages ?mkPages ?kcPages ?naPageslines ?naPagesmany ?naPagesturns ?naPagesleast ?naPagesmost ?naPages_from ?bgcd ?blcm ?vMOST_BOTTOM ?vMOST_LINES ?vMOST_PIECES ?vMOST_TOP ?vMOST_TURN ?vSCALE ?nabs ?nall ?nany ?nbool ?ndict ?nenumerate ?nint ?nisinstance ?nlen ?nlist ?nmin ?nrange ?nsorted ?nstr ?ntuple
    (case aCLines => k_is)
    (case aCPages => k_is)
    (case a1 => k_is)
    (case l1 => k_is)
    (case c1 => k_is)
    (case k1 => k_is)
    (case a2 => k_is)
    (case l2 => k_is)
    (case c2 => k_is)
    (case k2 => k_is)
    (case a3 => k_is)
    (case l3 => k_is)
    (case c3 => k_is)
    (case k3 => k_is)
    (case a4 => k_is)
    (case l4 => k_is)
    (case c4 => k_is)
    (case k4 => k_is)
    (case a5 => k_is)
    (case l5 => k_is)
    (case c5 => k_is)
    (case k5 => k_is)
    (case a6 => k_is)
    (case l6 => k_is)
    (case c6 => k_is)
    (case k6 => k_is)
    (case a7 => k_is)
    (case l7 => k_is)
    (case c7 => k_is)
    (case k7 => k_is)
    (case a8 => k_is)
    (case l8 => k_is)
    (case c8 => k_is)
    (case k8 => k_is)
    (case a9 => k_is)
    (case l9 => k_is)
    (case c9 => k_is)
    (case k9 => k_is)
    (case a10 => k_is)
    (case l10 => k_is)
    (case c10 => k_is)
    (case k10 => k_is)
    (case a11 => k_is)
    (case l11 => k_is)
    (case c11 => k_is)
    (case k11 => k_is)
    (case a12 => k_is)
    (case l12 => k_is)
    (case c12 => k_is)
    (case k12 => k_is)
    (case a13 => k_is)
    (case l13 => k_is)
    (case c13 => k_is)
    (case k13 => k_is)
    (case a14 => k_is)
    (case l14 => k_is)
    (case c14 => k_is)
    (case k14 => k_is)
    (case a15 => k_is)
    (case l15 => k_is)
    (case c15 => k_is)
    (case k15 => k_is)
    (case a16 => k_is)
    (case i16 => k_is)
    (case l16 => k_is)
    (case c16 => k_is)
    (case k16 => k_is)
    (case a17 => k_is)
    (case i17 => k_is)
    (case l17 => k_is)
    (case c17 => k_is)
    (case k17 => k_is)
    (case a18 => k_is)
    (case i18 => k_is)
    (case l18 => k_is)
    (case c18 => k_is)
    (case k18 => k_is)
    (case a19 => k_is)
    (case i19 => k_is)
    (case l19 => k_is)
    (case c19 => k_is)
    (case k19 => k_is)
    (case a20 => k_is)
    (case l20 => k_is)
    (case c20 => k_is)
    (case k20 => k_is)
    (case a21 => k_is)
    (case l21 => k_is)
    (case c21 => k_is)
    (case k21 => k_is)
    (case a22 => k_is)
    (case l22 => k_is)
    (case c22 => k_is)
    (case k22 => k_is)
    (case a23 => k_is)
    (case l23 => k_is)
    (case c23 => k_is)
    (case k23 => k_is)
    (case a24 => k_is)
    (case l24 => k_is)
    (case c24 => k_is)
    (case k24 => k_is)
    (case a25 => k_is)
    (case i25 => k_is)
    (case l25 => k_is)
    (case c25 => k_is)
    (case k25 => k_is)
    (case a26 => k_is)
    (case i26 => k_is)
    (case l26 => k_is)
    (case c26 => k_is)
    (case k26 => k_is)
    (case a27 => k_is)
    (case i27 => k_is)
    (case l27 => k_is)
    (case c27 => k_is)
    (case k27 => k_is)
    (case a28 => k_is)
    (case l28 => k_is)
    (case c28 => k_is)
    (case k28 => k_is)
    (case a29 => k_is)
    (case l29 => k_is)
    (case c29 => k_is)
    (case k29 => k_is)
    (case a30 => k_is)
    (case i30 => k_is)
    (case l30 => k_is)
    (case c30 => k_is)
    (case k30 => k_is)
    (case a31 => k_is)
    (case l31 => k_is)
    (case c31 => k_is)
    (case k31 => k_is)
    (case a32 => k_is)
    (case l32 => k_is)
    (case c32 => k_is)
    (case k32 => k_is)
    (case a33 => k_is)
    (case l33 => k_is)
    (case c33 => k_is)
    (case k33 => k_is)
    (case a34 => k_is)
    (case l34 => k_is)
    (case c34 => k_is)
    (case k34 => k_is)
    (case a35 => k_is)
    (case l35 => k_is)
    (case c35 => k_is)
    (case k35 => k_is)
    (case a36 => k_is)
    (case l36 => k_is)
    (case c36 => k_is)
    (case k36 => k_is)
    (case a37 => k_is)
    (case l37 => k_is)
    (case c37 => k_is)
    (case k37 => k_is)
    (case a38 => k_is)
    (case l38 => k_is)
    (case c38 => k_is)
    (case k38 => k_is)
    (case a39 => k_is)
    (case l39 => k_is)
    (case c39 => k_is)
    (case k39 => k_is)
    (case a40 => k_is)
    (case l40 => k_is)
    (case c40 => k_is)
    (case k40 => k_is)
    (case a41 => k_is)
    (case l41 => k_is)
    (case c41 => k_is)
    (case k41 => k_is)
    (case a42 => k_is)
    (case l42 => k_is)
    (case c42 => k_is)
    (case k42 => k_is)
    (case a43 => k_is)
    (case l43 => k_is)
    (case c43 => k_is)
    (case k43 => k_is)
    (case a44 => k_is)
    (case l44 => k_is)
    (case c44 => k_is)
    (case k44 => k_is)
    (case a45 => k_is)
    (case l45 => k_is)
    (case c45 => k_is)
    (case k45 => k_is)
    (case a46 => k_is)
    (case l46 => k_is)
    (case c46 => k_is)
    (case k46 => k_is)
    (case a47 => k_is)
    (case l47 => k_is)
    (case c47 => k_is)
    (case k47 => k_is)
    (case pgLines => k_is)
    (case hdLines => k_is)
    (case poLines => k_is)
    (case saLines => k_is)
    (case mkLines => k_is)
    (case kcLines => k_is)
    (case naLinesmany => k_is)
    (case naLinesroom => k_is)
    (case naLines_sums => k_is)
    (case pgPages => k_is)
    (case hdPages => k_is)
    (case poPages => k_is)
    (case saPages => k_is)
    (case mkPages => k_is)
    (case kcPages => k_is)
    (case naPageslines => k_is)
    (case naPagesmany => k_is)
    (case naPagesturns => k_is)
    (case naPagesleast => k_is)
    (case naPagesmost => k_is)
    (case naPages_from => k_is)
    (case bgcd => k_is)
    (case blcm => k_is)
    (case vMOST_BOTTOM => k_is)
    (case vMOST_LINES => k_is)
    (case vMOST_PIECES => k_is)
    (case vMOST_TOP => k_is)
    (case vMOST_TURN => k_is)
    (case vSCALE => k_is)
    (case nabs => k_is)
    (case nall => k_is)
    (case nany => k_is)
    (case nbool => k_is)
    (case ndict => k_is)
    (case nenumerate => k_is)
    (case nint => k_is)
    (case nisinstance => k_is)
    (case nlen => k_is)
    (case nlist => k_is)
    (case nmin => k_is)
    (case nrange => k_is)
    (case nsorted => k_is)
    (case nstr => k_is)
    (case ntuple => k_is)

